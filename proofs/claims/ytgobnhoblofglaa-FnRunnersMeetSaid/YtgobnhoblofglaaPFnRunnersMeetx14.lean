-- Laid by a program of this session's (wip/gen/printp.sh): the functions that the law reaches, each with its walk.
import Derived.Test.YtgobnhoblofglaaPFnRunnersMeetx0
import Derived.Test.YtgobnhoblofglaaPFnRunnersMeetx1
import Derived.Test.YtgobnhoblofglaaPFnRunnersMeetx2
import Derived.Test.YtgobnhoblofglaaPFnRunnersMeetx3
import Derived.Test.YtgobnhoblofglaaPFnRunnersMeetx4
import Derived.Test.YtgobnhoblofglaaPFnRunnersMeetx5
import Derived.Test.YtgobnhoblofglaaPFnRunnersMeetx6
import Derived.Test.YtgobnhoblofglaaPFnRunnersMeetx7
import Derived.Test.YtgobnhoblofglaaPFnRunnersMeetx8
import Derived.Test.YtgobnhoblofglaaPFnRunnersMeetx9
import Derived.Test.YtgobnhoblofglaaPFnRunnersMeetx10
import Derived.Test.YtgobnhoblofglaaPFnRunnersMeetx11
import Derived.Test.YtgobnhoblofglaaPFnRunnersMeetx12
namespace Go.Proofs.Ytgobnhoblofglaa.PFnRunnersMeet
open Go.RowKit Go.Proofs.YtgobnhoblofglaaW.PrintWords Go.Proofs.YtgobnhoblofglaaW.PrintLast Go.Proofs.YtgobnhoblofglaaW.PrintMore
attribute [local go_sem] max2_int min2_int max_two min_two max_three min_three max_four min_four   -- for this text's walks alone
set_option linter.unusedVariables false
set_option linter.unusedSimpArgs false
set_option maxHeartbeats 80000000 in
set_option maxRecDepth 100000 in
theorem laws_FnRunnersMeet.case2 (k : Nat) (A0 : Option Addr) (c0 : Nat) (l0 : List Int) (A1 : Option Addr) (c1 : Nat) (l1 : List Int) (r : Bool) (w : World) : (laws_FnRunnersMeet.part k A0 c0 l0 A1 c1 l1 r w).2.1 := by
      intro HRT hu45 HR0 HC0 HR1 HC1 A3 t398 t399 t400 t401 t402 t403 A5 t406 t409 A6 t410 t413 A7 t414 t415 A8 t416 t417 A9 t418 t419 t420 A10 t421 t422 t423 A11 t424 t427 A12 t428 t431 A13 t432 t433 A14 t434 t435 A15 z1_ nd z2_ w17 gb404 w18 GW404 GE404 gb405 w19 GW405 GE405 NB404_405 NB405_404 hnb20 hnc20 w23 v407 w26 v411 w29 w32 w35 w38 w41 v425 w44 v429 w47 w50 HO408 HO412 HO426 HO430 z3_ z4_ z5_ wc u165 u166 u167 u168 u169 u170 u171 u172 u173 u174 u175 u176 u177 u178 u179 u180 u181 u182 u183 u184 u185 u186 u187 u188 u189 u190 u191 u192 u193 u194 u195 u196 u197 u198 u199 u200 u201 u202 u203 u204 u205 u206 u207 u208 u209 u210 u211 u212 u213 u214 u215 u216 u217 u218 u219 u220 u221 u222 u223 u224 u225 u226 u227 u228 u229 u230 u231 u232 u233 u234 u235 u236 u237 HO_9 HO_23 BK404 BK405 HB kj15 HJ15 HC86 z6_ z7_ z8_ z9_ z10_ z11_
      have H := HC86.out
      clear HC86
      by_cases c87 : t409 = true
      ·
       subst c87
       rw [if_pos rfl] at H
       have HC88 := Aside0.mk H
       clear H
       go_upto_region 17 with (fail)
       go_cut [271] from 240 to 271 (fun v271 wc => ∃ (kq : Nat) (x271_87 : Bool), v271 = .bool x271_87 ∧ Aside0 (laws_FnRunnersMeet.j1 kq l1 t398 t403 t406 t414 t419 t420 t424 t427 t432 t433 x271_87 t399 t400 t401 t402 = some r) ∧ Aside0 (kq ≤ kj15) ∧ Aside0 (Kd.R (Kd.int .i64) 3 wc w.heap.size (fun k_ => some k_ ≠ (v425 : Value).ownBlock) v407 t406) ∧ Aside0 (Kd.R (Kd.int .i64) 3 wc w.heap.size (fun k_ => some k_ ≠ (v407 : Value).ownBlock) v425 t424) ∧ Aside0 (wc.heap[gb404]? = some (.cells #[.int .i64 t399, .int .i64 t400] 45 (0, 0))) ∧ Aside0 (wc.heap[gb405]? = some (.cells #[.int .i64 t401, .int .i64 t402] 45 (0, 0))) ∧ Aside0 (Below w.heap.size w wc))
       case first => as_aux_lemma =>
        have H := HC88.out
        clear HC88
        replace H := Option.bind_eq_some_iff.mp H
        obtain ⟨t438, A890, H⟩ := H
        (try dsimp only at H)
        have A89 := Aside0.mk A890
        clear A890
        by_cases c90 : t438 = true
        ·
         subst c90
         rw [if_pos rfl] at H
         by_cases c91 : (t406.length : Int) > 0
         ·
          rw [if_pos c91] at H
          have c91b0 : decide (0 < (t406.length : Int)) = true := decide_eq_true c91
          have c91b1 : decide (0 < t406.length) = true := decide_eq_true (by omega)
          clear c91
          (first | rw [c91b0] | (simp only [i64_w, i32_w]; rw [c91b0]) | skip)
          by_cases c92 : t420 = true
          ·
           subst c92
           rw [if_pos rfl] at H
           by_cases c93 : 0 < (t406.length : Int)
           ·
            rw [if_pos c93] at H
            have c93b0 : decide (0 < (t406.length : Int)) = true := decide_eq_true c93
            have c93b1 : decide (0 < t406.length) = true := decide_eq_true (by omega)
            clear c93
            by_cases c94 : (rd t406 0) = t418
            ·
             rw [if_pos c94] at H
             have c94b0 : ((rd t406 0) == t418) = true := beq_iff_eq.mpr c94
             have c94b1 : ((rd t406 0) != t418) = false := bne_eq_false_iff_eq.mpr c94
             clear c94
             by_cases c95 : t418 ≤ t403
             ·
              rw [if_pos c95] at H
              have c95b0 : decide (t418 ≤ t403) = true := decide_eq_true c95
              clear c95
              have H' := Aside0.mk H
              clear H
              obtain ⟨Ao96, co96, eo96⟩ := Kd.R_slice HO_9.out
              subst eo96
              go_wp2_with (first | ((with_reducible refine gate_callee (f := 33) rfl ?_); refine goesL_ (some 241) rfl rfl Try.func33 (by kernel_rfl) rfl #[.slice Ao96 t406.length co96] rfl (by (try simp only [List.map_toArray, List.map_cons, List.map_nil]); first | done | rfl | (simp only [List.length_drop, List.length_take]; rfl)) ?_; (with_reducible refine (laws_qRises.calls kj15 _ _ t406 true _ ?side1 ?side2 A89.out).mono ?_); (case side1 => repeat (first | exact (Kd.R_reads' HO_9.out).2.2 | (with_reducible refine Kd.C_alloc ?_ _) | (with_reducible refine Kd.C_drewN ?_ _) | (with_reducible refine Kd.C_drew ?_))); (case side2 => exact (Kd.R_reads' HO_9.out).2.1); rintro e w' ⟨rfl, ⟨nd, rfl⟩⟩; refine ⟨_, rfl, ?_⟩; have p439 : 0 ≤ (0 : Int) := (by omega); have q439 : 0 < (t406.length : Int) := of_decide_eq_true (by first | (with_reducible assumption) | assumption); obtain ⟨ad439, e439, hx439_0⟩ := Kd.at_int (Kd.R_reads' HO_9.out).2.2 0 p439 q439; cases e439; have qi439 : (0 < t406.length) = True := eq_true (by omega); (try rw [show ((0 : Int)).toNat = 0 from rfl] at hx439_0); (try rw [Addr.add_zero'] at hx439_0); replace p439 := eq_true p439; replace q439 := eq_true q439))
              go_meet
              case rel => exact ⟨_, (((t406.length : Int) == 0)), (by first | rfl | (simp; done) | (simp [*]; done)), H', ⟨by have := HJ15.out; first | omega | exact Nat.le_refl _⟩, ⟨by (with_reducible repeat (first | apply Kd.R_alloc | apply Kd.R_drewN | apply Kd.R_drew)); exact HO_9.out⟩, ⟨by (with_reducible repeat (first | apply Kd.R_alloc | apply Kd.R_drewN | apply Kd.R_drew)); exact HO_23.out⟩, ⟨bk_⟩, ⟨bk_⟩, ⟨bw_⟩⟩
             ·
              rw [if_neg c95] at H
              have c95b0 : decide (t418 ≤ t403) = false := decide_eq_false c95
              clear c95
              have H' := Aside0.mk H
              clear H
              obtain ⟨Ao97, co97, eo97⟩ := Kd.R_slice HO_9.out
              subst eo97
              go_wp2_with (first | ((with_reducible refine gate_callee (f := 33) rfl ?_); refine goesL_ (some 241) rfl rfl Try.func33 (by kernel_rfl) rfl #[.slice Ao97 t406.length co97] rfl (by (try simp only [List.map_toArray, List.map_cons, List.map_nil]); first | done | rfl | (simp only [List.length_drop, List.length_take]; rfl)) ?_; (with_reducible refine (laws_qRises.calls kj15 _ _ t406 true _ ?side1 ?side2 A89.out).mono ?_); (case side1 => repeat (first | exact (Kd.R_reads' HO_9.out).2.2 | (with_reducible refine Kd.C_alloc ?_ _) | (with_reducible refine Kd.C_drewN ?_ _) | (with_reducible refine Kd.C_drew ?_))); (case side2 => exact (Kd.R_reads' HO_9.out).2.1); rintro e w' ⟨rfl, ⟨nd, rfl⟩⟩; refine ⟨_, rfl, ?_⟩; have p439 : 0 ≤ (0 : Int) := (by omega); have q439 : 0 < (t406.length : Int) := of_decide_eq_true (by first | (with_reducible assumption) | assumption); obtain ⟨ad439, e439, hx439_0⟩ := Kd.at_int (Kd.R_reads' HO_9.out).2.2 0 p439 q439; cases e439; have qi439 : (0 < t406.length) = True := eq_true (by omega); (try rw [show ((0 : Int)).toNat = 0 from rfl] at hx439_0); (try rw [Addr.add_zero'] at hx439_0); replace p439 := eq_true p439; replace q439 := eq_true q439))
              go_meet
              case rel => exact ⟨_, (false), (by first | rfl | (simp; done) | (simp [*]; done)), H', ⟨by have := HJ15.out; first | omega | exact Nat.le_refl _⟩, ⟨by (with_reducible repeat (first | apply Kd.R_alloc | apply Kd.R_drewN | apply Kd.R_drew)); exact HO_9.out⟩, ⟨by (with_reducible repeat (first | apply Kd.R_alloc | apply Kd.R_drewN | apply Kd.R_drew)); exact HO_23.out⟩, ⟨bk_⟩, ⟨bk_⟩, ⟨bw_⟩⟩
            ·
             rw [if_neg c94] at H
             have c94b0 : ((rd t406 0) == t418) = false := beq_eq_false_iff_ne.mpr c94
             have c94b1 : ((rd t406 0) != t418) = true := bne_iff_ne.mpr c94
             exact absurd (H.trans (congrArg some HRT.out)) (by cases kj15 <;> simp [laws_FnRunnersMeet.j1])
           ·
            rw [if_neg c93] at H
            exact absurd H (by simp)
          ·
           replace c92 := Bool.eq_false_iff.mpr c92
           subst c92
           rw [if_neg (show ¬ (false = true) by decide)] at H
           exact absurd (H.trans (congrArg some HRT.out)) (by cases kj15 <;> simp [laws_FnRunnersMeet.j1])
         ·
          rw [if_neg c91] at H
          have c91b0 : decide (0 < (t406.length : Int)) = false := decide_eq_false c91
          have c91b1 : decide (0 < t406.length) = false := decide_eq_false (by omega)
          clear c91
          (first | rw [c91b0] | (simp only [i64_w, i32_w]; rw [c91b0]) | skip)
          by_cases c98 : t420 = true
          ·
           subst c98
           rw [if_pos rfl] at H
           by_cases c99 : t418 ≤ t403
           ·
            rw [if_pos c99] at H
            have c99b0 : decide (t418 ≤ t403) = true := decide_eq_true c99
            clear c99
            have H' := Aside0.mk H
            clear H
            obtain ⟨Ao100, co100, eo100⟩ := Kd.R_slice HO_9.out
            subst eo100
            go_wp2_with (first | ((with_reducible refine gate_callee (f := 33) rfl ?_); refine goesL_ (some 241) rfl rfl Try.func33 (by kernel_rfl) rfl #[.slice Ao100 t406.length co100] rfl (by (try simp only [List.map_toArray, List.map_cons, List.map_nil]); first | done | rfl | (simp only [List.length_drop, List.length_take]; rfl)) ?_; (with_reducible refine (laws_qRises.calls kj15 _ _ t406 true _ ?side1 ?side2 A89.out).mono ?_); (case side1 => repeat (first | exact (Kd.R_reads' HO_9.out).2.2 | (with_reducible refine Kd.C_alloc ?_ _) | (with_reducible refine Kd.C_drewN ?_ _) | (with_reducible refine Kd.C_drew ?_))); (case side2 => exact (Kd.R_reads' HO_9.out).2.1); rintro e w' ⟨rfl, ⟨nd, rfl⟩⟩; refine ⟨_, rfl, ?_⟩))
            go_meet
            case rel => exact ⟨_, (((t406.length : Int) == 0)), (by first | rfl | (simp; done) | (simp [*]; done)), H', ⟨by have := HJ15.out; first | omega | exact Nat.le_refl _⟩, ⟨by (with_reducible repeat (first | apply Kd.R_alloc | apply Kd.R_drewN | apply Kd.R_drew)); exact HO_9.out⟩, ⟨by (with_reducible repeat (first | apply Kd.R_alloc | apply Kd.R_drewN | apply Kd.R_drew)); exact HO_23.out⟩, ⟨bk_⟩, ⟨bk_⟩, ⟨bw_⟩⟩
           ·
            rw [if_neg c99] at H
            have c99b0 : decide (t418 ≤ t403) = false := decide_eq_false c99
            clear c99
            have H' := Aside0.mk H
            clear H
            obtain ⟨Ao101, co101, eo101⟩ := Kd.R_slice HO_9.out
            subst eo101
            go_wp2_with (first | ((with_reducible refine gate_callee (f := 33) rfl ?_); refine goesL_ (some 241) rfl rfl Try.func33 (by kernel_rfl) rfl #[.slice Ao101 t406.length co101] rfl (by (try simp only [List.map_toArray, List.map_cons, List.map_nil]); first | done | rfl | (simp only [List.length_drop, List.length_take]; rfl)) ?_; (with_reducible refine (laws_qRises.calls kj15 _ _ t406 true _ ?side1 ?side2 A89.out).mono ?_); (case side1 => repeat (first | exact (Kd.R_reads' HO_9.out).2.2 | (with_reducible refine Kd.C_alloc ?_ _) | (with_reducible refine Kd.C_drewN ?_ _) | (with_reducible refine Kd.C_drew ?_))); (case side2 => exact (Kd.R_reads' HO_9.out).2.1); rintro e w' ⟨rfl, ⟨nd, rfl⟩⟩; refine ⟨_, rfl, ?_⟩))
            go_meet
            case rel => exact ⟨_, (false), (by first | rfl | (simp; done) | (simp [*]; done)), H', ⟨by have := HJ15.out; first | omega | exact Nat.le_refl _⟩, ⟨by (with_reducible repeat (first | apply Kd.R_alloc | apply Kd.R_drewN | apply Kd.R_drew)); exact HO_9.out⟩, ⟨by (with_reducible repeat (first | apply Kd.R_alloc | apply Kd.R_drewN | apply Kd.R_drew)); exact HO_23.out⟩, ⟨bk_⟩, ⟨bk_⟩, ⟨bw_⟩⟩
          ·
           replace c98 := Bool.eq_false_iff.mpr c98
           subst c98
           rw [if_neg (show ¬ (false = true) by decide)] at H
           have H' := Aside0.mk H
           clear H
           obtain ⟨Ao102, co102, eo102⟩ := Kd.R_slice HO_9.out
           subst eo102
           go_wp2_with (first | ((with_reducible refine gate_callee (f := 33) rfl ?_); refine goesL_ (some 241) rfl rfl Try.func33 (by kernel_rfl) rfl #[.slice Ao102 t406.length co102] rfl (by (try simp only [List.map_toArray, List.map_cons, List.map_nil]); first | done | rfl | (simp only [List.length_drop, List.length_take]; rfl)) ?_; (with_reducible refine (laws_qRises.calls kj15 _ _ t406 true _ ?side1 ?side2 A89.out).mono ?_); (case side1 => repeat (first | exact (Kd.R_reads' HO_9.out).2.2 | (with_reducible refine Kd.C_alloc ?_ _) | (with_reducible refine Kd.C_drewN ?_ _) | (with_reducible refine Kd.C_drew ?_))); (case side2 => exact (Kd.R_reads' HO_9.out).2.1); rintro e w' ⟨rfl, ⟨nd, rfl⟩⟩; refine ⟨_, rfl, ?_⟩))
           go_meet
           case rel => exact ⟨_, (false), (by first | rfl | (simp; done) | (simp [*]; done)), H', ⟨by have := HJ15.out; first | omega | exact Nat.le_refl _⟩, ⟨by (with_reducible repeat (first | apply Kd.R_alloc | apply Kd.R_drewN | apply Kd.R_drew)); exact HO_9.out⟩, ⟨by (with_reducible repeat (first | apply Kd.R_alloc | apply Kd.R_drewN | apply Kd.R_drew)); exact HO_23.out⟩, ⟨bk_⟩, ⟨bk_⟩, ⟨bw_⟩⟩
        ·
         replace c90 := Bool.eq_false_iff.mpr c90
         subst c90
         rw [if_neg (show ¬ (false = true) by decide)] at H
         exact absurd (H.trans (congrArg some HRT.out)) (by cases kj15 <;> simp [laws_FnRunnersMeet.j1])
       case rest => as_aux_lemma =>
        clear HC88
        (try clear c1); (try clear c4); (try clear c85); (try clear c87); (try clear hcz21_0); (try clear hcz21_1); (try clear hcz22_0); (try clear hcz22_1); (try clear hcz24_0); (try clear hcz24_1); (try clear hcz25_0); (try clear hcz25_1); (try clear hcz27_0); (try clear hcz27_1); (try clear hcz28_0); (try clear hcz28_1); (try clear hcz30_0); (try clear hcz30_1); (try clear hcz31_0); (try clear hcz31_1); (try clear hcz33_0); (try clear hcz33_1); (try clear hcz34_0); (try clear hcz34_1); (try clear hcz36_0); (try clear hcz36_1); (try clear hcz37_0); (try clear hcz37_1); (try clear hcz39_0); (try clear hcz39_1); (try clear hcz40_0); (try clear hcz40_1); (try clear hcz42_0); (try clear hcz42_1); (try clear hcz43_0); (try clear hcz43_1); (try clear hcz45_0); (try clear hcz45_1); (try clear hcz46_0); (try clear hcz46_1); (try clear hcz48_0); (try clear hcz48_1); (try clear hcz49_0); (try clear hcz49_1); (try clear hfz21_0); (try clear hfz21_1); (try clear hfz22_0); (try clear hfz22_1); (try clear hfz24_0); (try clear hfz24_1); (try clear hfz25_0); (try clear hfz25_1); (try clear hfz27_0); (try clear hfz27_1); (try clear hfz28_0); (try clear hfz28_1); (try clear hfz30_0); (try clear hfz30_1); (try clear hfz31_0); (try clear hfz31_1); (try clear hfz33_0); (try clear hfz33_1); (try clear hfz34_0); (try clear hfz34_1); (try clear hfz36_0); (try clear hfz36_1); (try clear hfz37_0); (try clear hfz37_1); (try clear hfz39_0); (try clear hfz39_1); (try clear hfz40_0); (try clear hfz40_1); (try clear hfz42_0); (try clear hfz42_1); (try clear hfz43_0); (try clear hfz43_1); (try clear hfz45_0); (try clear hfz45_1); (try clear hfz46_0); (try clear hfz46_1); (try clear hfz48_0); (try clear hfz48_1); (try clear hfz49_0); (try clear hfz49_1)
        obtain ⟨kq, x271_87, rfl, HA, HJ87, HO_9, HO_23, BK404, BK405, HB⟩ := hcut
        cases kq with
        | zero => exact absurd HA.out (by simp [laws_FnRunnersMeet.j1])
        | succ kj87 =>
         have H := HA.out
         clear HA
         simp only [laws_FnRunnersMeet.j1] at H
         by_cases c103 : x271_87 = true
         ·
          subst c103
          rw [if_pos rfl] at H
          exact absurd ((Option.some.inj H).trans HRT.out) (by decide)
         ·
          replace c103 := Bool.eq_false_iff.mpr c103
          subst c103
          rw [if_neg (show ¬ (false = true) by decide)] at H
          have H' := Aside0.mk H
          clear H
          obtain ⟨Ao104, co104, eo104⟩ := Kd.R_slice HO_9.out
          subst eo104
          go_wp2
          go_loopg [274] kj87 (fun kq v274 w' => ∃ (x274_3 : Int), v274 = .int .i64 x274_3 ∧ Aside0 (laws_FnRunnersMeet.l0 kq l1 t398 t403 t414 t419 t420 t424 t427 t432 t433 t406 (t406.length : Int) x274_3 t399 t400 t401 t402 = some r) ∧ Aside0 (kq ≤ kj87) ∧ Aside0 (Kd.R (Kd.int .i64) 3 w' w.heap.size (fun k_ => some k_ ≠ ((.slice Ao104 t406.length co104) : Value).ownBlock) v425 t424) ∧ Aside0 (Kd.R (Kd.int .i64) 3 w' w.heap.size (fun k_ => some k_ ≠ (v425 : Value).ownBlock) (.slice Ao104 t406.length co104) t406) ∧ Aside0 (w'.heap[gb404]? = some (.cells #[.int .i64 t399, .int .i64 t400] 45 (0, 0))) ∧ Aside0 (w'.heap[gb405]? = some (.cells #[.int .i64 t401, .int .i64 t402] 45 (0, 0))) ∧ Aside0 (Below w.heap.size w w'))
          case atStart => exact ⟨(0), (by first | rfl | (simp; done) | (simp [*]; done)), H', ⟨Nat.le_refl _⟩, ⟨by (with_reducible repeat (first | apply Kd.R_alloc | apply Kd.R_drewN | apply Kd.R_drew)); exact HO_23.out⟩, ⟨by (with_reducible repeat (first | apply Kd.R_alloc | apply Kd.R_drewN | apply Kd.R_drew)); exact HO_9.out⟩, ⟨bk_⟩, ⟨bk_⟩, ⟨bw_⟩⟩
          case round => as_aux_lemma =>
           clear H'
           (try clear c1); (try clear c4); (try clear c85); (try clear c87); (try clear c103); (try clear hcz21_0); (try clear hcz21_1); (try clear hcz22_0); (try clear hcz22_1); (try clear hcz24_0); (try clear hcz24_1); (try clear hcz25_0); (try clear hcz25_1); (try clear hcz27_0); (try clear hcz27_1); (try clear hcz28_0); (try clear hcz28_1); (try clear hcz30_0); (try clear hcz30_1); (try clear hcz31_0); (try clear hcz31_1); (try clear hcz33_0); (try clear hcz33_1); (try clear hcz34_0); (try clear hcz34_1); (try clear hcz36_0); (try clear hcz36_1); (try clear hcz37_0); (try clear hcz37_1); (try clear hcz39_0); (try clear hcz39_1); (try clear hcz40_0); (try clear hcz40_1); (try clear hcz42_0); (try clear hcz42_1); (try clear hcz43_0); (try clear hcz43_1); (try clear hcz45_0); (try clear hcz45_1); (try clear hcz46_0); (try clear hcz46_1); (try clear hcz48_0); (try clear hcz48_1); (try clear hcz49_0); (try clear hcz49_1); (try clear hfz21_0); (try clear hfz21_1); (try clear hfz22_0); (try clear hfz22_1); (try clear hfz24_0); (try clear hfz24_1); (try clear hfz25_0); (try clear hfz25_1); (try clear hfz27_0); (try clear hfz27_1); (try clear hfz28_0); (try clear hfz28_1); (try clear hfz30_0); (try clear hfz30_1); (try clear hfz31_0); (try clear hfz31_1); (try clear hfz33_0); (try clear hfz33_1); (try clear hfz34_0); (try clear hfz34_1); (try clear hfz36_0); (try clear hfz36_1); (try clear hfz37_0); (try clear hfz37_1); (try clear hfz39_0); (try clear hfz39_1); (try clear hfz40_0); (try clear hfz40_1); (try clear hfz42_0); (try clear hfz42_1); (try clear hfz43_0); (try clear hfz43_1); (try clear hfz45_0); (try clear hfz45_1); (try clear hfz46_0); (try clear hfz46_1); (try clear hfz48_0); (try clear hfz48_1); (try clear hfz49_0); (try clear hfz49_1)
           obtain ⟨x274_3, rfl, HA, HK3, HO_23, HO_272, BK404, BK405, HB⟩ := hrel
           cases gk with
           | zero => exact absurd HA.out (by simp [laws_FnRunnersMeet.l0])
           | succ k3 =>
            have H := HA.out
            clear HA
            simp only [laws_FnRunnersMeet.l0] at H
            by_cases c105 : x274_3 < (t406.length : Int)
            ·
             rw [if_pos c105] at H
             have c105b0 : decide (x274_3 < (t406.length : Int)) = true := decide_eq_true c105
             clear c105
             by_cases c106 : 0 ≤ x274_3
             ·
              rw [if_pos c106] at H
              have c106b0 : decide (0 ≤ x274_3) = true := decide_eq_true c106
              clear c106
              by_cases c107 : x274_3 < (t406.length : Int)
              ·
               rw [if_pos c107] at H
               have c107b0 : decide (x274_3 < (t406.length : Int)) = true := decide_eq_true c107
               clear c107
               replace H := Option.bind_eq_some_iff.mp H
               obtain ⟨⟨t441, t442⟩, A1080, H⟩ := H
               (try dsimp only at H)
               have A108 := Aside0.mk A1080
               clear A1080
               replace H := Option.bind_eq_some_iff.mp H
               obtain ⟨⟨t443, t444⟩, A1090, H⟩ := H
               (try dsimp only at H)
               have A109 := Aside0.mk A1090
               clear A1090
               by_cases c110 : t442 = true
               ·
                subst c110
                rw [if_pos rfl] at H
                by_cases c111 : t444 = true
                ·
                 subst c111
                 rw [if_pos rfl] at H
                 by_cases c112 : t441 = t443
                 ·
                  rw [if_pos c112] at H
                  have c112b0 : (t441 == t443) = true := beq_iff_eq.mpr c112
                  have c112b1 : (t441 != t443) = false := bne_eq_false_iff_eq.mpr c112
                  clear c112
                  by_cases c113 : (rd t406 x274_3) < 0
                  ·
                   rw [if_pos c113] at H
                   have c113b0 : decide ((rd t406 x274_3) < 0) = true := decide_eq_true c113
                   clear c113
                   exact absurd ((Option.some.inj H).trans HRT.out) (by decide)
                  ·
                   rw [if_neg c113] at H
                   have c113b0 : decide ((rd t406 x274_3) < 0) = false := decide_eq_false c113
                   clear c113
                   by_cases c114 : (rd t406 x274_3) > t403
                   ·
                    rw [if_pos c114] at H
                    have c114b0 : decide (t403 < (rd t406 x274_3)) = true := decide_eq_true c114
                    clear c114
                    exact absurd ((Option.some.inj H).trans HRT.out) (by decide)
                   ·
                    rw [if_neg c114] at H
                    have c114b0 : decide (t403 < (rd t406 x274_3)) = false := decide_eq_false c114
                    clear c114
                    replace H := Option.bind_eq_some_iff.mp H
                    obtain ⟨t445, A1150, H⟩ := H
                    (try dsimp only at H)
                    have A115 := Aside0.mk A1150
                    clear A1150
                    by_cases c116 : t445 = true
                    ·
                     subst c116
                     rw [if_pos rfl] at H
                     have H' := Aside0.mk H
                     clear H
                     have p440 : 0 ≤ (x274_3 : Int) := of_decide_eq_true (by first | (with_reducible assumption) | assumption)
                     have q440 : x274_3 < (t406.length : Int) := of_decide_eq_true (by first | (with_reducible assumption) | assumption)
                     obtain ⟨ad440, e440, hx440_0⟩ := Kd.at_int (Kd.R_reads' HO_272.out).2.2 x274_3 p440 q440
                     cases e440
                     replace p440 := eq_true p440
                     replace q440 := eq_true q440
                     have hnb117 := NB404_405.out
                     have hnc117 := NB405_404.out
                     have hcz118_0 : wr.cell? ⟨gb404, 0, none⟩ = some (.int .i64 t399) := (blk_cell BK404.out 0).trans rfl
                     have hcz118_1 : wr.cell? ⟨gb404, 1, none⟩ = some (.int .i64 t400) := (blk_cell BK404.out 1).trans rfl
                     have hfz118_0 := blk_frozen BK404.out 0
                     have hfz118_1 := blk_frozen BK404.out 1
                     go_wp2_with (first | ((with_reducible refine gate_callee (f := 34) rfl ?_); refine goesL_ (some 282) rfl rfl Try.func34 (by kernel_rfl) rfl #[.int .i64 t398, .agg #[.int .i64 t399, .int .i64 t400], .int .i64 (rd t406 x274_3)] rfl (by (try simp only [List.map_toArray, List.map_cons, List.map_nil]); first | done | rfl | (simp only [List.length_drop, List.length_take]; rfl)) ?_; (with_reducible refine (impl_PlaceOnTrack.calls t398 t399 t400 (rd t406 x274_3) t441 true _ A108.out).mono ?_); rintro e w119 ⟨rfl, hb⟩; refine ⟨_, rfl, ?_⟩; have n0_ := Aside0.mk (Kd.R_below (by (with_reducible repeat (first | apply Kd.R_alloc | apply Kd.R_drewN | apply Kd.R_drew)); exact HO_23.out) hb); have n1_ := Aside0.mk (Kd.R_below (by (with_reducible repeat (first | apply Kd.R_alloc | apply Kd.R_drewN | apply Kd.R_drew)); exact HO_272.out) hb); have n2_ := Aside0.mk (blk_below (g := gb404) (o := .cells #[.int .i64 t399, .int .i64 t400] 45 (0, 0)) bk_ hb); have n3_ := Aside0.mk (blk_below (g := gb405) (o := .cells #[.int .i64 t401, .int .i64 t402] 45 (0, 0)) bk_ hb); have n4_ := Aside0.mk (below_step bw_ hb); clear HO_23; clear HO_272; clear BK404; clear BK405; clear HB; have HO_23 := n0_; have HO_272 := n1_; have BK404 := n2_; have BK405 := n3_; have HB := n4_; clear n0_ n1_ n2_ n3_ n4_; (try clear hb); (try clear hb2); (try clear hk); (try clear hi); have hcz120_0 : w119.cell? ⟨gb405, 0, none⟩ = some (.int .i64 t401) := (blk_cell BK405.out 0).trans rfl; have hcz120_1 : w119.cell? ⟨gb405, 1, none⟩ = some (.int .i64 t402) := (blk_cell BK405.out 1).trans rfl; have hfz120_0 := blk_frozen BK405.out 0; have hfz120_1 := blk_frozen BK405.out 1) | ((with_reducible refine gate_callee (f := 34) rfl ?_); refine goesL_ (some 289) rfl rfl Try.func34 (by kernel_rfl) rfl #[.int .i64 t398, .agg #[.int .i64 t401, .int .i64 t402], .int .i64 (rd t406 x274_3)] rfl (by (try simp only [List.map_toArray, List.map_cons, List.map_nil]); first | done | rfl | (simp only [List.length_drop, List.length_take]; rfl)) ?_; (with_reducible refine (impl_PlaceOnTrack.calls t398 t401 t402 (rd t406 x274_3) t443 true _ A109.out).mono ?_); rintro e w121 ⟨rfl, hb⟩; refine ⟨_, rfl, ?_⟩; have n0_ := Aside0.mk (Kd.R_below (by (with_reducible repeat (first | apply Kd.R_alloc | apply Kd.R_drewN | apply Kd.R_drew)); exact HO_23.out) hb); have n1_ := Aside0.mk (Kd.R_below (by (with_reducible repeat (first | apply Kd.R_alloc | apply Kd.R_drewN | apply Kd.R_drew)); exact HO_272.out) hb); have n2_ := Aside0.mk (blk_below (g := gb404) (o := .cells #[.int .i64 t399, .int .i64 t400] 45 (0, 0)) bk_ hb); have n3_ := Aside0.mk (blk_below (g := gb405) (o := .cells #[.int .i64 t401, .int .i64 t402] 45 (0, 0)) bk_ hb); have n4_ := Aside0.mk (below_step bw_ hb); clear HO_23; clear HO_272; clear BK404; clear BK405; clear HB; have HO_23 := n0_; have HO_272 := n1_; have BK404 := n2_; have BK405 := n3_; have HB := n4_; clear n0_ n1_ n2_ n3_ n4_; (try clear hb); (try clear hb2); (try clear hk); (try clear hi); obtain ⟨Ao122, co122, eo122⟩ := Kd.R_slice HO_23.out; subst eo122) | (go_at_call 35; (with_reducible refine (laws_qHas.calls k3 _ _ t424 t441 true _ ?side1 ?side2 A115.out).mono ?_); (case side1 => repeat (first | exact (Kd.R_reads' HO_23.out).2.2 | (with_reducible refine Kd.C_alloc ?_ _) | (with_reducible refine Kd.C_drewN ?_ _) | (with_reducible refine Kd.C_drew ?_))); (case side2 => exact (Kd.R_reads' HO_23.out).2.1); rintro e w' ⟨rfl, ⟨nd, rfl⟩⟩))
                     go_roundg k3
                     case measure => have := HJ15.out; have := HJ87.out; have := HK3.out; omega
                     case rel => exact ⟨(wrap64 (x274_3 + 1)), (by first | rfl | (simp; done) | (simp [*]; done)), H', ⟨by have := HJ15.out; have := HJ87.out; have := HK3.out; omega⟩, ⟨by (with_reducible repeat (first | apply Kd.R_alloc | apply Kd.R_drewN | apply Kd.R_drew)); exact HO_23.out⟩, ⟨by (with_reducible repeat (first | apply Kd.R_alloc | apply Kd.R_drewN | apply Kd.R_drew)); exact HO_272.out⟩, ⟨bk_⟩, ⟨bk_⟩, ⟨bw_⟩⟩
                    ·
                     replace c116 := Bool.eq_false_iff.mpr c116
                     subst c116
                     rw [if_neg (show ¬ (false = true) by decide)] at H
                     exact absurd ((Option.some.inj H).trans HRT.out) (by decide)
                 ·
                  rw [if_neg c112] at H
                  have c112b0 : (t441 == t443) = false := beq_eq_false_iff_ne.mpr c112
                  have c112b1 : (t441 != t443) = true := bne_iff_ne.mpr c112
                  exact absurd ((Option.some.inj H).trans HRT.out) (by decide)
                ·
                 replace c111 := Bool.eq_false_iff.mpr c111
                 subst c111
                 rw [if_neg (show ¬ (false = true) by decide)] at H
                 exact absurd ((Option.some.inj H).trans HRT.out) (by decide)
               ·
                replace c110 := Bool.eq_false_iff.mpr c110
                subst c110
                rw [if_neg (show ¬ (false = true) by decide)] at H
                exact absurd ((Option.some.inj H).trans HRT.out) (by decide)
              ·
               rw [if_neg c107] at H
               exact absurd H (by simp)
             ·
              rw [if_neg c106] at H
              exact absurd H (by simp)
            ·
             rw [if_neg c105] at H
             have c105b0 : decide (x274_3 < (t406.length : Int)) = false := decide_eq_false c105
             clear c105
             have H' := Aside0.mk H
             clear H
             go_wp2
             go_meet
             case rel => exact ⟨_, H', ⟨by have := HJ15.out; have := HJ87.out; have := HK3.out; first | omega | exact Nat.le_refl _⟩, ⟨by (with_reducible repeat (first | apply Kd.R_alloc | apply Kd.R_drewN | apply Kd.R_drew)); exact Kd.R_mono HO_23.out (fun _ hk => trivial)⟩, ⟨bk_⟩, ⟨bk_⟩, ⟨bw_⟩⟩
      ·
       replace c87 := Bool.eq_false_iff.mpr c87
       subst c87
       rw [if_neg (show ¬ (false = true) by decide)] at H
       have H' := Aside0.mk H
       clear H
       go_wp2
       go_meet
       case rel => exact ⟨_, H', ⟨by have := HJ15.out; first | omega | exact Nat.le_refl _⟩, ⟨by (with_reducible repeat (first | apply Kd.R_alloc | apply Kd.R_drewN | apply Kd.R_drew)); exact Kd.R_mono HO_23.out (fun _ hk => trivial)⟩, ⟨bk_⟩, ⟨bk_⟩, ⟨bw_⟩⟩
end Go.Proofs.Ytgobnhoblofglaa.PFnRunnersMeet
