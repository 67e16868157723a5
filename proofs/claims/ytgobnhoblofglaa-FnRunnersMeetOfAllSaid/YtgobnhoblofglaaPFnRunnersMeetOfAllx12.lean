-- Laid by a program of this session's (wip/gen/printp.sh): the functions that the law reaches, each with its walk.
import Derived.Test.YtgobnhoblofglaaPFnRunnersMeetOfAllx0
import Derived.Test.YtgobnhoblofglaaPFnRunnersMeetOfAllx1
import Derived.Test.YtgobnhoblofglaaPFnRunnersMeetOfAllx2
import Derived.Test.YtgobnhoblofglaaPFnRunnersMeetOfAllx3
import Derived.Test.YtgobnhoblofglaaPFnRunnersMeetOfAllx4
import Derived.Test.YtgobnhoblofglaaPFnRunnersMeetOfAllx5
import Derived.Test.YtgobnhoblofglaaPFnRunnersMeetOfAllx6
import Derived.Test.YtgobnhoblofglaaPFnRunnersMeetOfAllx7
import Derived.Test.YtgobnhoblofglaaPFnRunnersMeetOfAllx8
import Derived.Test.YtgobnhoblofglaaPFnRunnersMeetOfAllx9
import Derived.Test.YtgobnhoblofglaaPFnRunnersMeetOfAllx10
namespace Go.Proofs.Ytgobnhoblofglaa.PFnRunnersMeetOfAll
open Go.RowKit Go.Proofs.YtgobnhoblofglaaW.PrintWords Go.Proofs.YtgobnhoblofglaaW.PrintLast Go.Proofs.YtgobnhoblofglaaW.PrintMore
attribute [local go_sem] max2_int min2_int max_two min_two max_three min_three max_four min_four   -- for this text's walks alone
set_option linter.unusedVariables false
set_option linter.unusedSimpArgs false
set_option maxHeartbeats 80000000 in
set_option maxRecDepth 100000 in
theorem laws_FnRunnersMeetOfAll.case2 (k : Nat) (a0 : Int) (a1_0 : Int) (a1_1 : Int) (a2_0 : Int) (a2_1 : Int) (a3 : Int) (a4 : Int) (A5 : Option Addr) (c5 : Nat) (l5 : List (S45)) (r : Bool) (w : World) : (laws_FnRunnersMeetOfAll.part k a0 a1_0 a1_1 a2_0 a2_1 a3 a4 A5 c5 l5 r w).2.1 := by
      intro HRT hu45 HR5 HC5 t268 t271 A10 t272 t275 A11 t276 t277 A12 t278 t279 A13 t280 t281 t282 A14 t283 t284 t285 A15 t286 t289 A16 t290 t293 A17 t294 t295 A18 t296 t297 A19 z1_ gb266 w21 GW266 GE266 gb267 w22 GW267 GE267 NB266_267 NB267_266 hnb23 hnc23 w26 v269 w29 v273 w32 w35 w38 w41 w44 v287 w47 v291 w50 w53 HO270 HO274 HO288 HO292 z2_ z3_ z4_ wc u160 u161 u162 u163 u164 u165 u166 u167 u168 u169 u170 u171 u172 u173 u174 u175 u176 u177 u178 u179 u180 u181 u182 u183 u184 u185 u186 u187 u188 u189 u190 u191 u192 u193 u194 u195 u196 u197 u198 u199 u200 u201 u202 u203 u204 u205 u206 u207 u208 u209 u210 u211 u212 u213 u214 u215 u216 u217 u218 u219 u220 u221 u222 u223 u224 u225 u226 u227 u228 u229 u230 u231 u232 HO_13 HO_27 BK266 BK267 HB kj19 HJ19 HC89 z5_ z6_ z7_ z8_ z9_ z10_
      have H := HC89.out
      clear HC89
      by_cases c90 : t271 = true
      ·
       subst c90
       rw [if_pos rfl] at H
       have HC91 := Aside0.mk H
       clear H
       go_upto_region 16 with (fail)
       go_cut [266] from 235 to 266 (fun v266 wc => ∃ (kq : Nat) (x266_90 : Bool), v266 = .bool x266_90 ∧ Aside0 (laws_FnRunnersMeetOfAll.j1 kq a0 a3 a4 l5 t268 t276 t281 t282 t286 t289 t294 t295 x266_90 a1_0 a1_1 a2_0 a2_1 = some r) ∧ Aside0 (kq ≤ kj19) ∧ Aside0 (Kd.R (Kd.int .i64) 3 wc w.heap.size (fun k_ => some k_ ≠ (v287 : Value).ownBlock) v269 t268) ∧ Aside0 (Kd.R (Kd.int .i64) 3 wc w.heap.size (fun k_ => some k_ ≠ (v269 : Value).ownBlock) v287 t286) ∧ Aside0 (wc.heap[gb266]? = some (.cells #[.int .i64 a1_0, .int .i64 a1_1] 45 (0, 0))) ∧ Aside0 (wc.heap[gb267]? = some (.cells #[.int .i64 a2_0, .int .i64 a2_1] 45 (0, 0))) ∧ Aside0 (Below w.heap.size w wc))
       case first => as_aux_lemma =>
        have H := HC91.out
        clear HC91
        replace H := Option.bind_eq_some_iff.mp H
        obtain ⟨t300, A920, H⟩ := H
        (try dsimp only at H)
        have A92 := Aside0.mk A920
        clear A920
        by_cases c93 : t300 = true
        ·
         subst c93
         rw [if_pos rfl] at H
         by_cases c94 : (t268.length : Int) > 0
         ·
          rw [if_pos c94] at H
          have c94b0 : decide (0 < (t268.length : Int)) = true := decide_eq_true c94
          have c94b1 : decide (0 < t268.length) = true := decide_eq_true (by omega)
          clear c94
          (first | rw [c94b0] | (simp only [i64_w, i32_w]; rw [c94b0]) | skip)
          by_cases c95 : t282 = true
          ·
           subst c95
           rw [if_pos rfl] at H
           by_cases c96 : 0 < (t268.length : Int)
           ·
            rw [if_pos c96] at H
            have c96b0 : decide (0 < (t268.length : Int)) = true := decide_eq_true c96
            have c96b1 : decide (0 < t268.length) = true := decide_eq_true (by omega)
            clear c96
            by_cases c97 : (rd t268 0) = t280
            ·
             rw [if_pos c97] at H
             have c97b0 : ((rd t268 0) == t280) = true := beq_iff_eq.mpr c97
             have c97b1 : ((rd t268 0) != t280) = false := bne_eq_false_iff_eq.mpr c97
             clear c97
             by_cases c98 : t280 ≤ a3
             ·
              rw [if_pos c98] at H
              have c98b0 : decide (t280 ≤ a3) = true := decide_eq_true c98
              clear c98
              have H' := Aside0.mk H
              clear H
              obtain ⟨Ao99, co99, eo99⟩ := Kd.R_slice HO_13.out
              subst eo99
              go_wp2_with (first | ((with_reducible refine gate_callee (f := 33) rfl ?_); refine goesL_ (some 236) rfl rfl Try.func33 (by kernel_rfl) rfl #[.slice Ao99 t268.length co99] rfl (by (try simp only [List.map_toArray, List.map_cons, List.map_nil]); first | done | rfl | (simp only [List.length_drop, List.length_take]; rfl)) ?_; (with_reducible refine (laws_qRises.calls kj19 _ _ t268 true _ ?side1 ?side2 A92.out).mono ?_); (case side1 => repeat (first | exact (Kd.R_reads' HO_13.out).2.2 | (with_reducible refine Kd.C_alloc ?_ _) | (with_reducible refine Kd.C_drewN ?_ _) | (with_reducible refine Kd.C_drew ?_))); (case side2 => exact (Kd.R_reads' HO_13.out).2.1); rintro e w' ⟨rfl, ⟨nd, rfl⟩⟩; refine ⟨_, rfl, ?_⟩; have p301 : 0 ≤ (0 : Int) := (by omega); have q301 : 0 < (t268.length : Int) := of_decide_eq_true (by first | (with_reducible assumption) | assumption); obtain ⟨ad301, e301, hx301_0⟩ := Kd.at_int (Kd.R_reads' HO_13.out).2.2 0 p301 q301; cases e301; have qi301 : (0 < t268.length) = True := eq_true (by omega); (try rw [show ((0 : Int)).toNat = 0 from rfl] at hx301_0); (try rw [Addr.add_zero'] at hx301_0); replace p301 := eq_true p301; replace q301 := eq_true q301))
              go_meet
              case rel => exact ⟨_, (((t268.length : Int) == 0)), (by first | rfl | (simp; done) | (simp [*]; done)), H', ⟨by have := HJ19.out; first | omega | exact Nat.le_refl _⟩, ⟨by (with_reducible repeat (first | apply Kd.R_alloc | apply Kd.R_drewN | apply Kd.R_drew)); exact HO_13.out⟩, ⟨by (with_reducible repeat (first | apply Kd.R_alloc | apply Kd.R_drewN | apply Kd.R_drew)); exact HO_27.out⟩, ⟨by (with_reducible repeat (first | refine blk_drewN ?_ _ | refine blk_drew ?_ | refine blk_alloc ?_ _)); exact BK266.out⟩, ⟨by (with_reducible repeat (first | refine blk_drewN ?_ _ | refine blk_drew ?_ | refine blk_alloc ?_ _)); exact BK267.out⟩, ⟨bw_⟩⟩
             ·
              rw [if_neg c98] at H
              have c98b0 : decide (t280 ≤ a3) = false := decide_eq_false c98
              clear c98
              have H' := Aside0.mk H
              clear H
              obtain ⟨Ao100, co100, eo100⟩ := Kd.R_slice HO_13.out
              subst eo100
              go_wp2_with (first | ((with_reducible refine gate_callee (f := 33) rfl ?_); refine goesL_ (some 236) rfl rfl Try.func33 (by kernel_rfl) rfl #[.slice Ao100 t268.length co100] rfl (by (try simp only [List.map_toArray, List.map_cons, List.map_nil]); first | done | rfl | (simp only [List.length_drop, List.length_take]; rfl)) ?_; (with_reducible refine (laws_qRises.calls kj19 _ _ t268 true _ ?side1 ?side2 A92.out).mono ?_); (case side1 => repeat (first | exact (Kd.R_reads' HO_13.out).2.2 | (with_reducible refine Kd.C_alloc ?_ _) | (with_reducible refine Kd.C_drewN ?_ _) | (with_reducible refine Kd.C_drew ?_))); (case side2 => exact (Kd.R_reads' HO_13.out).2.1); rintro e w' ⟨rfl, ⟨nd, rfl⟩⟩; refine ⟨_, rfl, ?_⟩; have p301 : 0 ≤ (0 : Int) := (by omega); have q301 : 0 < (t268.length : Int) := of_decide_eq_true (by first | (with_reducible assumption) | assumption); obtain ⟨ad301, e301, hx301_0⟩ := Kd.at_int (Kd.R_reads' HO_13.out).2.2 0 p301 q301; cases e301; have qi301 : (0 < t268.length) = True := eq_true (by omega); (try rw [show ((0 : Int)).toNat = 0 from rfl] at hx301_0); (try rw [Addr.add_zero'] at hx301_0); replace p301 := eq_true p301; replace q301 := eq_true q301))
              go_meet
              case rel => exact ⟨_, (false), (by first | rfl | (simp; done) | (simp [*]; done)), H', ⟨by have := HJ19.out; first | omega | exact Nat.le_refl _⟩, ⟨by (with_reducible repeat (first | apply Kd.R_alloc | apply Kd.R_drewN | apply Kd.R_drew)); exact HO_13.out⟩, ⟨by (with_reducible repeat (first | apply Kd.R_alloc | apply Kd.R_drewN | apply Kd.R_drew)); exact HO_27.out⟩, ⟨by (with_reducible repeat (first | refine blk_drewN ?_ _ | refine blk_drew ?_ | refine blk_alloc ?_ _)); exact BK266.out⟩, ⟨by (with_reducible repeat (first | refine blk_drewN ?_ _ | refine blk_drew ?_ | refine blk_alloc ?_ _)); exact BK267.out⟩, ⟨bw_⟩⟩
            ·
             rw [if_neg c97] at H
             have c97b0 : ((rd t268 0) == t280) = false := beq_eq_false_iff_ne.mpr c97
             have c97b1 : ((rd t268 0) != t280) = true := bne_iff_ne.mpr c97
             exact absurd (H.trans (congrArg some HRT.out)) (by cases kj19 <;> simp [laws_FnRunnersMeetOfAll.j1])
           ·
            rw [if_neg c96] at H
            exact absurd H (by simp)
          ·
           replace c95 := Bool.eq_false_iff.mpr c95
           subst c95
           rw [if_neg (show ¬ (false = true) by decide)] at H
           exact absurd (H.trans (congrArg some HRT.out)) (by cases kj19 <;> simp [laws_FnRunnersMeetOfAll.j1])
         ·
          rw [if_neg c94] at H
          have c94b0 : decide (0 < (t268.length : Int)) = false := decide_eq_false c94
          have c94b1 : decide (0 < t268.length) = false := decide_eq_false (by omega)
          clear c94
          (first | rw [c94b0] | (simp only [i64_w, i32_w]; rw [c94b0]) | skip)
          by_cases c101 : t282 = true
          ·
           subst c101
           rw [if_pos rfl] at H
           by_cases c102 : t280 ≤ a3
           ·
            rw [if_pos c102] at H
            have c102b0 : decide (t280 ≤ a3) = true := decide_eq_true c102
            clear c102
            have H' := Aside0.mk H
            clear H
            obtain ⟨Ao103, co103, eo103⟩ := Kd.R_slice HO_13.out
            subst eo103
            go_wp2_with (first | ((with_reducible refine gate_callee (f := 33) rfl ?_); refine goesL_ (some 236) rfl rfl Try.func33 (by kernel_rfl) rfl #[.slice Ao103 t268.length co103] rfl (by (try simp only [List.map_toArray, List.map_cons, List.map_nil]); first | done | rfl | (simp only [List.length_drop, List.length_take]; rfl)) ?_; (with_reducible refine (laws_qRises.calls kj19 _ _ t268 true _ ?side1 ?side2 A92.out).mono ?_); (case side1 => repeat (first | exact (Kd.R_reads' HO_13.out).2.2 | (with_reducible refine Kd.C_alloc ?_ _) | (with_reducible refine Kd.C_drewN ?_ _) | (with_reducible refine Kd.C_drew ?_))); (case side2 => exact (Kd.R_reads' HO_13.out).2.1); rintro e w' ⟨rfl, ⟨nd, rfl⟩⟩; refine ⟨_, rfl, ?_⟩))
            go_meet
            case rel => exact ⟨_, (((t268.length : Int) == 0)), (by first | rfl | (simp; done) | (simp [*]; done)), H', ⟨by have := HJ19.out; first | omega | exact Nat.le_refl _⟩, ⟨by (with_reducible repeat (first | apply Kd.R_alloc | apply Kd.R_drewN | apply Kd.R_drew)); exact HO_13.out⟩, ⟨by (with_reducible repeat (first | apply Kd.R_alloc | apply Kd.R_drewN | apply Kd.R_drew)); exact HO_27.out⟩, ⟨by (with_reducible repeat (first | refine blk_drewN ?_ _ | refine blk_drew ?_ | refine blk_alloc ?_ _)); exact BK266.out⟩, ⟨by (with_reducible repeat (first | refine blk_drewN ?_ _ | refine blk_drew ?_ | refine blk_alloc ?_ _)); exact BK267.out⟩, ⟨bw_⟩⟩
           ·
            rw [if_neg c102] at H
            have c102b0 : decide (t280 ≤ a3) = false := decide_eq_false c102
            clear c102
            have H' := Aside0.mk H
            clear H
            obtain ⟨Ao104, co104, eo104⟩ := Kd.R_slice HO_13.out
            subst eo104
            go_wp2_with (first | ((with_reducible refine gate_callee (f := 33) rfl ?_); refine goesL_ (some 236) rfl rfl Try.func33 (by kernel_rfl) rfl #[.slice Ao104 t268.length co104] rfl (by (try simp only [List.map_toArray, List.map_cons, List.map_nil]); first | done | rfl | (simp only [List.length_drop, List.length_take]; rfl)) ?_; (with_reducible refine (laws_qRises.calls kj19 _ _ t268 true _ ?side1 ?side2 A92.out).mono ?_); (case side1 => repeat (first | exact (Kd.R_reads' HO_13.out).2.2 | (with_reducible refine Kd.C_alloc ?_ _) | (with_reducible refine Kd.C_drewN ?_ _) | (with_reducible refine Kd.C_drew ?_))); (case side2 => exact (Kd.R_reads' HO_13.out).2.1); rintro e w' ⟨rfl, ⟨nd, rfl⟩⟩; refine ⟨_, rfl, ?_⟩))
            go_meet
            case rel => exact ⟨_, (false), (by first | rfl | (simp; done) | (simp [*]; done)), H', ⟨by have := HJ19.out; first | omega | exact Nat.le_refl _⟩, ⟨by (with_reducible repeat (first | apply Kd.R_alloc | apply Kd.R_drewN | apply Kd.R_drew)); exact HO_13.out⟩, ⟨by (with_reducible repeat (first | apply Kd.R_alloc | apply Kd.R_drewN | apply Kd.R_drew)); exact HO_27.out⟩, ⟨by (with_reducible repeat (first | refine blk_drewN ?_ _ | refine blk_drew ?_ | refine blk_alloc ?_ _)); exact BK266.out⟩, ⟨by (with_reducible repeat (first | refine blk_drewN ?_ _ | refine blk_drew ?_ | refine blk_alloc ?_ _)); exact BK267.out⟩, ⟨bw_⟩⟩
          ·
           replace c101 := Bool.eq_false_iff.mpr c101
           subst c101
           rw [if_neg (show ¬ (false = true) by decide)] at H
           have H' := Aside0.mk H
           clear H
           obtain ⟨Ao105, co105, eo105⟩ := Kd.R_slice HO_13.out
           subst eo105
           go_wp2_with (first | ((with_reducible refine gate_callee (f := 33) rfl ?_); refine goesL_ (some 236) rfl rfl Try.func33 (by kernel_rfl) rfl #[.slice Ao105 t268.length co105] rfl (by (try simp only [List.map_toArray, List.map_cons, List.map_nil]); first | done | rfl | (simp only [List.length_drop, List.length_take]; rfl)) ?_; (with_reducible refine (laws_qRises.calls kj19 _ _ t268 true _ ?side1 ?side2 A92.out).mono ?_); (case side1 => repeat (first | exact (Kd.R_reads' HO_13.out).2.2 | (with_reducible refine Kd.C_alloc ?_ _) | (with_reducible refine Kd.C_drewN ?_ _) | (with_reducible refine Kd.C_drew ?_))); (case side2 => exact (Kd.R_reads' HO_13.out).2.1); rintro e w' ⟨rfl, ⟨nd, rfl⟩⟩; refine ⟨_, rfl, ?_⟩))
           go_meet
           case rel => exact ⟨_, (false), (by first | rfl | (simp; done) | (simp [*]; done)), H', ⟨by have := HJ19.out; first | omega | exact Nat.le_refl _⟩, ⟨by (with_reducible repeat (first | apply Kd.R_alloc | apply Kd.R_drewN | apply Kd.R_drew)); exact HO_13.out⟩, ⟨by (with_reducible repeat (first | apply Kd.R_alloc | apply Kd.R_drewN | apply Kd.R_drew)); exact HO_27.out⟩, ⟨by (with_reducible repeat (first | refine blk_drewN ?_ _ | refine blk_drew ?_ | refine blk_alloc ?_ _)); exact BK266.out⟩, ⟨by (with_reducible repeat (first | refine blk_drewN ?_ _ | refine blk_drew ?_ | refine blk_alloc ?_ _)); exact BK267.out⟩, ⟨bw_⟩⟩
        ·
         replace c93 := Bool.eq_false_iff.mpr c93
         subst c93
         rw [if_neg (show ¬ (false = true) by decide)] at H
         exact absurd (H.trans (congrArg some HRT.out)) (by cases kj19 <;> simp [laws_FnRunnersMeetOfAll.j1])
       case rest => as_aux_lemma =>
        clear HC91
        (try clear c5); (try clear c7); (try clear c7b0); (try clear c7b1); (try clear c88); (try clear c90); (try clear hcz24_0); (try clear hcz24_1); (try clear hcz25_0); (try clear hcz25_1); (try clear hcz27_0); (try clear hcz27_1); (try clear hcz28_0); (try clear hcz28_1); (try clear hcz30_0); (try clear hcz30_1); (try clear hcz31_0); (try clear hcz31_1); (try clear hcz33_0); (try clear hcz33_1); (try clear hcz34_0); (try clear hcz34_1); (try clear hcz36_0); (try clear hcz36_1); (try clear hcz37_0); (try clear hcz37_1); (try clear hcz39_0); (try clear hcz39_1); (try clear hcz40_0); (try clear hcz40_1); (try clear hcz42_0); (try clear hcz42_1); (try clear hcz43_0); (try clear hcz43_1); (try clear hcz45_0); (try clear hcz45_1); (try clear hcz46_0); (try clear hcz46_1); (try clear hcz48_0); (try clear hcz48_1); (try clear hcz49_0); (try clear hcz49_1); (try clear hcz51_0); (try clear hcz51_1); (try clear hcz52_0); (try clear hcz52_1); (try clear hfz24_0); (try clear hfz24_1); (try clear hfz25_0); (try clear hfz25_1); (try clear hfz27_0); (try clear hfz27_1); (try clear hfz28_0); (try clear hfz28_1); (try clear hfz30_0); (try clear hfz30_1); (try clear hfz31_0); (try clear hfz31_1); (try clear hfz33_0); (try clear hfz33_1); (try clear hfz34_0); (try clear hfz34_1); (try clear hfz36_0); (try clear hfz36_1); (try clear hfz37_0); (try clear hfz37_1); (try clear hfz39_0); (try clear hfz39_1); (try clear hfz40_0); (try clear hfz40_1); (try clear hfz42_0); (try clear hfz42_1); (try clear hfz43_0); (try clear hfz43_1); (try clear hfz45_0); (try clear hfz45_1); (try clear hfz46_0); (try clear hfz46_1); (try clear hfz48_0); (try clear hfz48_1); (try clear hfz49_0); (try clear hfz49_1); (try clear hfz51_0); (try clear hfz51_1); (try clear hfz52_0); (try clear hfz52_1)
        obtain ⟨kq, x266_90, rfl, HA, HJ90, HO_13, HO_27, BK266, BK267, HB⟩ := hcut
        cases kq with
        | zero => exact absurd HA.out (by simp [laws_FnRunnersMeetOfAll.j1])
        | succ kj90 =>
         have H := HA.out
         clear HA
         simp only [laws_FnRunnersMeetOfAll.j1] at H
         by_cases c106 : x266_90 = true
         ·
          subst c106
          rw [if_pos rfl] at H
          exact absurd ((Option.some.inj H).trans HRT.out) (by decide)
         ·
          replace c106 := Bool.eq_false_iff.mpr c106
          subst c106
          rw [if_neg (show ¬ (false = true) by decide)] at H
          have H' := Aside0.mk H
          clear H
          obtain ⟨Ao107, co107, eo107⟩ := Kd.R_slice HO_13.out
          subst eo107
          go_wp2
          go_loopg [269] kj90 (fun kq v269 w' => ∃ (x269_3 : Int), v269 = .int .i64 x269_3 ∧ Aside0 (laws_FnRunnersMeetOfAll.l0 kq a0 a3 a4 l5 t276 t281 t282 t286 t289 t294 t295 t268 (t268.length : Int) x269_3 a1_0 a1_1 a2_0 a2_1 = some r) ∧ Aside0 (kq ≤ kj90) ∧ Aside0 (Kd.R (Kd.int .i64) 3 w' w.heap.size (fun k_ => some k_ ≠ ((.slice Ao107 t268.length co107) : Value).ownBlock) v287 t286) ∧ Aside0 (Kd.R (Kd.int .i64) 3 w' w.heap.size (fun k_ => some k_ ≠ (v287 : Value).ownBlock) (.slice Ao107 t268.length co107) t268) ∧ Aside0 (w'.heap[gb266]? = some (.cells #[.int .i64 a1_0, .int .i64 a1_1] 45 (0, 0))) ∧ Aside0 (w'.heap[gb267]? = some (.cells #[.int .i64 a2_0, .int .i64 a2_1] 45 (0, 0))) ∧ Aside0 (Below w.heap.size w w'))
          case atStart => exact ⟨(0), (by first | rfl | (simp; done) | (simp [*]; done)), H', ⟨Nat.le_refl _⟩, ⟨by (with_reducible repeat (first | apply Kd.R_alloc | apply Kd.R_drewN | apply Kd.R_drew)); exact HO_27.out⟩, ⟨by (with_reducible repeat (first | apply Kd.R_alloc | apply Kd.R_drewN | apply Kd.R_drew)); exact HO_13.out⟩, ⟨by (with_reducible repeat (first | refine blk_drewN ?_ _ | refine blk_drew ?_ | refine blk_alloc ?_ _)); exact BK266.out⟩, ⟨by (with_reducible repeat (first | refine blk_drewN ?_ _ | refine blk_drew ?_ | refine blk_alloc ?_ _)); exact BK267.out⟩, ⟨bw_⟩⟩
          case round => as_aux_lemma =>
           clear H'
           (try clear c5); (try clear c7); (try clear c7b0); (try clear c7b1); (try clear c88); (try clear c90); (try clear c106); (try clear hcz24_0); (try clear hcz24_1); (try clear hcz25_0); (try clear hcz25_1); (try clear hcz27_0); (try clear hcz27_1); (try clear hcz28_0); (try clear hcz28_1); (try clear hcz30_0); (try clear hcz30_1); (try clear hcz31_0); (try clear hcz31_1); (try clear hcz33_0); (try clear hcz33_1); (try clear hcz34_0); (try clear hcz34_1); (try clear hcz36_0); (try clear hcz36_1); (try clear hcz37_0); (try clear hcz37_1); (try clear hcz39_0); (try clear hcz39_1); (try clear hcz40_0); (try clear hcz40_1); (try clear hcz42_0); (try clear hcz42_1); (try clear hcz43_0); (try clear hcz43_1); (try clear hcz45_0); (try clear hcz45_1); (try clear hcz46_0); (try clear hcz46_1); (try clear hcz48_0); (try clear hcz48_1); (try clear hcz49_0); (try clear hcz49_1); (try clear hcz51_0); (try clear hcz51_1); (try clear hcz52_0); (try clear hcz52_1); (try clear hfz24_0); (try clear hfz24_1); (try clear hfz25_0); (try clear hfz25_1); (try clear hfz27_0); (try clear hfz27_1); (try clear hfz28_0); (try clear hfz28_1); (try clear hfz30_0); (try clear hfz30_1); (try clear hfz31_0); (try clear hfz31_1); (try clear hfz33_0); (try clear hfz33_1); (try clear hfz34_0); (try clear hfz34_1); (try clear hfz36_0); (try clear hfz36_1); (try clear hfz37_0); (try clear hfz37_1); (try clear hfz39_0); (try clear hfz39_1); (try clear hfz40_0); (try clear hfz40_1); (try clear hfz42_0); (try clear hfz42_1); (try clear hfz43_0); (try clear hfz43_1); (try clear hfz45_0); (try clear hfz45_1); (try clear hfz46_0); (try clear hfz46_1); (try clear hfz48_0); (try clear hfz48_1); (try clear hfz49_0); (try clear hfz49_1); (try clear hfz51_0); (try clear hfz51_1); (try clear hfz52_0); (try clear hfz52_1)
           obtain ⟨x269_3, rfl, HA, HK3, HO_27, HO_267, BK266, BK267, HB⟩ := hrel
           cases gk with
           | zero => exact absurd HA.out (by simp [laws_FnRunnersMeetOfAll.l0])
           | succ k3 =>
            have H := HA.out
            clear HA
            simp only [laws_FnRunnersMeetOfAll.l0] at H
            by_cases c108 : x269_3 < (t268.length : Int)
            ·
             rw [if_pos c108] at H
             have c108b0 : decide (x269_3 < (t268.length : Int)) = true := decide_eq_true c108
             clear c108
             by_cases c109 : 0 ≤ x269_3
             ·
              rw [if_pos c109] at H
              have c109b0 : decide (0 ≤ x269_3) = true := decide_eq_true c109
              clear c109
              by_cases c110 : x269_3 < (t268.length : Int)
              ·
               rw [if_pos c110] at H
               have c110b0 : decide (x269_3 < (t268.length : Int)) = true := decide_eq_true c110
               clear c110
               replace H := Option.bind_eq_some_iff.mp H
               obtain ⟨⟨t303, t304⟩, A1110, H⟩ := H
               (try dsimp only at H)
               have A111 := Aside0.mk A1110
               clear A1110
               replace H := Option.bind_eq_some_iff.mp H
               obtain ⟨⟨t305, t306⟩, A1120, H⟩ := H
               (try dsimp only at H)
               have A112 := Aside0.mk A1120
               clear A1120
               by_cases c113 : t304 = true
               ·
                subst c113
                rw [if_pos rfl] at H
                by_cases c114 : t306 = true
                ·
                 subst c114
                 rw [if_pos rfl] at H
                 by_cases c115 : t303 = t305
                 ·
                  rw [if_pos c115] at H
                  have c115b0 : (t303 == t305) = true := beq_iff_eq.mpr c115
                  have c115b1 : (t303 != t305) = false := bne_eq_false_iff_eq.mpr c115
                  clear c115
                  by_cases c116 : (rd t268 x269_3) < 0
                  ·
                   rw [if_pos c116] at H
                   have c116b0 : decide ((rd t268 x269_3) < 0) = true := decide_eq_true c116
                   clear c116
                   exact absurd ((Option.some.inj H).trans HRT.out) (by decide)
                  ·
                   rw [if_neg c116] at H
                   have c116b0 : decide ((rd t268 x269_3) < 0) = false := decide_eq_false c116
                   clear c116
                   by_cases c117 : (rd t268 x269_3) > a3
                   ·
                    rw [if_pos c117] at H
                    have c117b0 : decide (a3 < (rd t268 x269_3)) = true := decide_eq_true c117
                    clear c117
                    exact absurd ((Option.some.inj H).trans HRT.out) (by decide)
                   ·
                    rw [if_neg c117] at H
                    have c117b0 : decide (a3 < (rd t268 x269_3)) = false := decide_eq_false c117
                    clear c117
                    replace H := Option.bind_eq_some_iff.mp H
                    obtain ⟨t307, A1180, H⟩ := H
                    (try dsimp only at H)
                    have A118 := Aside0.mk A1180
                    clear A1180
                    by_cases c119 : t307 = true
                    ·
                     subst c119
                     rw [if_pos rfl] at H
                     have H' := Aside0.mk H
                     clear H
                     have p302 : 0 ≤ (x269_3 : Int) := of_decide_eq_true (by first | (with_reducible assumption) | assumption)
                     have q302 : x269_3 < (t268.length : Int) := of_decide_eq_true (by first | (with_reducible assumption) | assumption)
                     obtain ⟨ad302, e302, hx302_0⟩ := Kd.at_int (Kd.R_reads' HO_267.out).2.2 x269_3 p302 q302
                     cases e302
                     replace p302 := eq_true p302
                     replace q302 := eq_true q302
                     have hnb120 := NB266_267.out
                     have hnc120 := NB267_266.out
                     have hcz121_0 : wr.cell? ⟨gb266, 0, none⟩ = some (.int .i64 a1_0) := (blk_cell BK266.out 0).trans rfl
                     have hcz121_1 : wr.cell? ⟨gb266, 1, none⟩ = some (.int .i64 a1_1) := (blk_cell BK266.out 1).trans rfl
                     have hfz121_0 := blk_frozen BK266.out 0
                     have hfz121_1 := blk_frozen BK266.out 1
                     go_wp2_with (first | ((with_reducible refine gate_callee (f := 34) rfl ?_); refine goesL_ (some 277) rfl rfl Try.func34 (by kernel_rfl) rfl #[.int .i64 a0, .agg #[.int .i64 a1_0, .int .i64 a1_1], .int .i64 (rd t268 x269_3)] rfl (by (try simp only [List.map_toArray, List.map_cons, List.map_nil]); first | done | rfl | (simp only [List.length_drop, List.length_take]; rfl)) ?_; (with_reducible refine (impl_PlaceOnTrack.calls a0 a1_0 a1_1 (rd t268 x269_3) t303 true _ A111.out).mono ?_); rintro e w122 ⟨rfl, hb⟩; refine ⟨_, rfl, ?_⟩; have n0_ := Aside0.mk (Kd.R_below (by (with_reducible repeat (first | apply Kd.R_alloc | apply Kd.R_drewN | apply Kd.R_drew)); exact HO_27.out) hb); have n1_ := Aside0.mk (Kd.R_below (by (with_reducible repeat (first | apply Kd.R_alloc | apply Kd.R_drewN | apply Kd.R_drew)); exact HO_267.out) hb); have n2_ := Aside0.mk (blk_below (g := gb266) (o := .cells #[.int .i64 a1_0, .int .i64 a1_1] 45 (0, 0)) bk_ hb); have n3_ := Aside0.mk (blk_below (g := gb267) (o := .cells #[.int .i64 a2_0, .int .i64 a2_1] 45 (0, 0)) bk_ hb); have n4_ := Aside0.mk (below_step bw_ hb); clear HO_27; clear HO_267; clear BK266; clear BK267; clear HB; have HO_27 := n0_; have HO_267 := n1_; have BK266 := n2_; have BK267 := n3_; have HB := n4_; clear n0_ n1_ n2_ n3_ n4_; (try clear hb); (try clear hb2); (try clear hk); (try clear hi); have hcz123_0 : w122.cell? ⟨gb267, 0, none⟩ = some (.int .i64 a2_0) := (blk_cell BK267.out 0).trans rfl; have hcz123_1 : w122.cell? ⟨gb267, 1, none⟩ = some (.int .i64 a2_1) := (blk_cell BK267.out 1).trans rfl; have hfz123_0 := blk_frozen BK267.out 0; have hfz123_1 := blk_frozen BK267.out 1) | ((with_reducible refine gate_callee (f := 34) rfl ?_); refine goesL_ (some 284) rfl rfl Try.func34 (by kernel_rfl) rfl #[.int .i64 a0, .agg #[.int .i64 a2_0, .int .i64 a2_1], .int .i64 (rd t268 x269_3)] rfl (by (try simp only [List.map_toArray, List.map_cons, List.map_nil]); first | done | rfl | (simp only [List.length_drop, List.length_take]; rfl)) ?_; (with_reducible refine (impl_PlaceOnTrack.calls a0 a2_0 a2_1 (rd t268 x269_3) t305 true _ A112.out).mono ?_); rintro e w124 ⟨rfl, hb⟩; refine ⟨_, rfl, ?_⟩; have n0_ := Aside0.mk (Kd.R_below (by (with_reducible repeat (first | apply Kd.R_alloc | apply Kd.R_drewN | apply Kd.R_drew)); exact HO_27.out) hb); have n1_ := Aside0.mk (Kd.R_below (by (with_reducible repeat (first | apply Kd.R_alloc | apply Kd.R_drewN | apply Kd.R_drew)); exact HO_267.out) hb); have n2_ := Aside0.mk (blk_below (g := gb266) (o := .cells #[.int .i64 a1_0, .int .i64 a1_1] 45 (0, 0)) bk_ hb); have n3_ := Aside0.mk (blk_below (g := gb267) (o := .cells #[.int .i64 a2_0, .int .i64 a2_1] 45 (0, 0)) bk_ hb); have n4_ := Aside0.mk (below_step bw_ hb); clear HO_27; clear HO_267; clear BK266; clear BK267; clear HB; have HO_27 := n0_; have HO_267 := n1_; have BK266 := n2_; have BK267 := n3_; have HB := n4_; clear n0_ n1_ n2_ n3_ n4_; (try clear hb); (try clear hb2); (try clear hk); (try clear hi); obtain ⟨Ao125, co125, eo125⟩ := Kd.R_slice HO_27.out; subst eo125) | (go_at_call 35; (with_reducible refine (laws_qHas.calls k3 _ _ t286 t303 true _ ?side1 ?side2 A118.out).mono ?_); (case side1 => repeat (first | exact (Kd.R_reads' HO_27.out).2.2 | (with_reducible refine Kd.C_alloc ?_ _) | (with_reducible refine Kd.C_drewN ?_ _) | (with_reducible refine Kd.C_drew ?_))); (case side2 => exact (Kd.R_reads' HO_27.out).2.1); rintro e w' ⟨rfl, ⟨nd, rfl⟩⟩))
                     go_roundg k3
                     case measure => have := HJ19.out; have := HJ90.out; have := HK3.out; omega
                     case rel => exact ⟨(wrap64 (x269_3 + 1)), (by first | rfl | (simp; done) | (simp [*]; done)), H', ⟨by have := HJ19.out; have := HJ90.out; have := HK3.out; omega⟩, ⟨by (with_reducible repeat (first | apply Kd.R_alloc | apply Kd.R_drewN | apply Kd.R_drew)); exact HO_27.out⟩, ⟨by (with_reducible repeat (first | apply Kd.R_alloc | apply Kd.R_drewN | apply Kd.R_drew)); exact HO_267.out⟩, ⟨by (with_reducible repeat (first | refine blk_drewN ?_ _ | refine blk_drew ?_ | refine blk_alloc ?_ _)); exact BK266.out⟩, ⟨by (with_reducible repeat (first | refine blk_drewN ?_ _ | refine blk_drew ?_ | refine blk_alloc ?_ _)); exact BK267.out⟩, ⟨bw_⟩⟩
                    ·
                     replace c119 := Bool.eq_false_iff.mpr c119
                     subst c119
                     rw [if_neg (show ¬ (false = true) by decide)] at H
                     exact absurd ((Option.some.inj H).trans HRT.out) (by decide)
                 ·
                  rw [if_neg c115] at H
                  have c115b0 : (t303 == t305) = false := beq_eq_false_iff_ne.mpr c115
                  have c115b1 : (t303 != t305) = true := bne_iff_ne.mpr c115
                  exact absurd ((Option.some.inj H).trans HRT.out) (by decide)
                ·
                 replace c114 := Bool.eq_false_iff.mpr c114
                 subst c114
                 rw [if_neg (show ¬ (false = true) by decide)] at H
                 exact absurd ((Option.some.inj H).trans HRT.out) (by decide)
               ·
                replace c113 := Bool.eq_false_iff.mpr c113
                subst c113
                rw [if_neg (show ¬ (false = true) by decide)] at H
                exact absurd ((Option.some.inj H).trans HRT.out) (by decide)
              ·
               rw [if_neg c110] at H
               exact absurd H (by simp)
             ·
              rw [if_neg c109] at H
              exact absurd H (by simp)
            ·
             rw [if_neg c108] at H
             have c108b0 : decide (x269_3 < (t268.length : Int)) = false := decide_eq_false c108
             clear c108
             have H' := Aside0.mk H
             clear H
             go_wp2
             go_meet
             case rel => exact ⟨_, H', ⟨by have := HJ19.out; have := HJ90.out; have := HK3.out; first | omega | exact Nat.le_refl _⟩, ⟨by (with_reducible repeat (first | apply Kd.R_alloc | apply Kd.R_drewN | apply Kd.R_drew)); exact Kd.R_mono HO_27.out (fun _ hk => trivial)⟩, ⟨by (with_reducible repeat (first | refine blk_drewN ?_ _ | refine blk_drew ?_ | refine blk_alloc ?_ _)); exact BK266.out⟩, ⟨by (with_reducible repeat (first | refine blk_drewN ?_ _ | refine blk_drew ?_ | refine blk_alloc ?_ _)); exact BK267.out⟩, ⟨bw_⟩⟩
      ·
       replace c90 := Bool.eq_false_iff.mpr c90
       subst c90
       rw [if_neg (show ¬ (false = true) by decide)] at H
       have H' := Aside0.mk H
       clear H
       go_wp2
       go_meet
       case rel => exact ⟨_, H', ⟨by have := HJ19.out; first | omega | exact Nat.le_refl _⟩, ⟨by (with_reducible repeat (first | apply Kd.R_alloc | apply Kd.R_drewN | apply Kd.R_drew)); exact Kd.R_mono HO_27.out (fun _ hk => trivial)⟩, ⟨by (with_reducible repeat (first | refine blk_drewN ?_ _ | refine blk_drew ?_ | refine blk_alloc ?_ _)); exact BK266.out⟩, ⟨by (with_reducible repeat (first | refine blk_drewN ?_ _ | refine blk_drew ?_ | refine blk_alloc ?_ _)); exact BK267.out⟩, ⟨bw_⟩⟩
end Go.Proofs.Ytgobnhoblofglaa.PFnRunnersMeetOfAll
