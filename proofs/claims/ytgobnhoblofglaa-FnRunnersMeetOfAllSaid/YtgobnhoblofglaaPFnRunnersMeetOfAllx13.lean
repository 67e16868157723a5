-- Laid by a program of this session's (wip/gen/printp.sh): the functions that the law reaches, each with its walk.
import Derived.Test.YtgobnhoblofglaaPFnRunnersMeetOfAllx0
import Derived.Test.YtgobnhoblofglaaPFnRunnersMeetOfAllx1
import Derived.Test.YtgobnhoblofglaaPFnRunnersMeetOfAllx2
import Derived.Test.YtgobnhoblofglaaPFnRunnersMeetOfAllx3
import Derived.Test.YtgobnhoblofglaaPFnRunnersMeetOfAllx4
import Derived.Test.YtgobnhoblofglaaPFnRunnersMeetOfAllx5
import Derived.Test.YtgobnhoblofglaaPFnRunnersMeetOfAllx6
import Derived.Test.YtgobnhoblofglaaPFnRunnersMeetOfAllx7
import Derived.Test.YtgobnhoblofglaaPFnRunnersMeetOfAllx8
import Derived.Test.YtgobnhoblofglaaPFnRunnersMeetOfAllx9
import Derived.Test.YtgobnhoblofglaaPFnRunnersMeetOfAllx10
namespace Go.Proofs.Ytgobnhoblofglaa.PFnRunnersMeetOfAll
open Go.RowKit Go.Proofs.YtgobnhoblofglaaW.PrintWords Go.Proofs.YtgobnhoblofglaaW.PrintLast Go.Proofs.YtgobnhoblofglaaW.PrintMore
attribute [local go_sem] max2_int min2_int max_two min_two max_three min_three max_four min_four   -- for this text's walks alone
set_option linter.unusedVariables false
set_option linter.unusedSimpArgs false
set_option maxHeartbeats 80000000 in
set_option maxRecDepth 100000 in
theorem laws_FnRunnersMeetOfAll.case3 (k : Nat) (a0 : Int) (a1_0 : Int) (a1_1 : Int) (a2_0 : Int) (a2_1 : Int) (a3 : Int) (a4 : Int) (A5 : Option Addr) (c5 : Nat) (l5 : List (S45)) (r : Bool) (w : World) : (laws_FnRunnersMeetOfAll.part k a0 a1_0 a1_1 a2_0 a2_1 a3 a4 A5 c5 l5 r w).2.2.1 := by
        intro HRT hu45 HR5 HC5 t268 t271 A10 t272 t275 A11 t276 t277 A12 t278 t279 A13 t280 t281 t282 A14 t283 t284 t285 A15 t286 t289 A16 t290 t293 A17 t294 t295 A18 t296 t297 A19 z1_ gb266 w21 GW266 GE266 gb267 w22 GW267 GE267 NB266_267 NB267_266 hnb23 hnc23 w26 v269 w29 v273 w32 w35 w38 w41 w44 v287 w47 v291 w50 w53 HO270 HO274 HO288 HO292 z2_ z3_ z4_ z5_ u160 u161 u162 u163 u164 u165 u166 u167 u168 u169 u170 u171 u172 u173 u174 u175 u176 u177 u178 u179 u180 u181 u182 u183 u184 u185 u186 u187 u188 u189 u190 u191 u192 u193 u194 u195 u196 u197 u198 u199 u200 u201 u202 u203 u204 u205 u206 u207 u208 u209 u210 u211 u212 u213 u214 u215 u216 u217 u218 u219 u220 u221 u222 u223 u224 u225 u226 u227 u228 u229 u230 u231 u232 HO_13 z6_ z7_ z8_ z9_ kj19 HJ19 wc u12 u36 u37 u38 u39 u40 u235 u236 u237 u238 u239 u240 u241 u242 u243 u244 u245 u246 u247 u248 u249 u250 u251 u252 u253 u254 u255 u256 u257 u258 u259 u260 u261 u262 u263 u264 u265 u266 u267 u268 u269 u270 u271 u272 u273 u274 u275 u276 u277 u278 u279 u280 u281 u282 u283 u284 u285 u286 u287 u288 u289 u290 u291 u292 u293 u294 u295 u296 u297 u298 u299 u300 u301 u302 u303 u304 u305 u306 u307 u308 u309 u310 u311 u312 u313 HO_27 BK266 BK267 HB kj88 HJ88 HC126 z10_ z11_ z12_ z13_ z14_ z15_ z16_ z17_
        have H := HC126.out
        clear HC126
        by_cases c127 : t289 = true
        ·
         subst c127
         rw [if_pos rfl] at H
         replace H := Option.bind_eq_some_iff.mp H
         obtain ⟨t308, A1280, H⟩ := H
         (try dsimp only at H)
         have A128 := Aside0.mk A1280
         clear A1280
         by_cases c129 : t308 = true
         ·
          subst c129
          rw [if_pos rfl] at H
          by_cases c130 : ((decide ((t286.length : Int) > 0)) != t282) = true
          ·
           rw [if_pos c130] at H
           have c130b0 : ((decide ((t286.length : Int) > 0)) != t282) = true := c130
           (try (have c130b1 : decide ((decide ((t286.length : Int) > 0)) = t282) = false := by simpa using c130))
           (try (have c130b2 : ((decide ((t286.length : Int) > 0)) == t282) = false := by simpa using c130))
           (try (have c130b3 : ¬ ((decide ((t286.length : Int) > 0)) = t282) := by simpa using c130))
           clear c130
           (first | rw [c130b0] | (simp only [i64_w, i32_w]; rw [c130b0]) | skip)
           exact absurd (H.trans (congrArg some HRT.out)) (by cases kj88 <;> simp [laws_FnRunnersMeetOfAll.j4])
          ·
           rw [if_neg c130] at H
           have c130b0 : ((decide ((t286.length : Int) > 0)) != t282) = false := by simpa using c130
           (try (have c130b1 : decide ((decide ((t286.length : Int) > 0)) = t282) = true := by simpa using c130))
           (try (have c130b2 : ((decide ((t286.length : Int) > 0)) == t282) = true := by simpa using c130))
           clear c130
           (first | rw [c130b0] | (simp only [i64_w, i32_w]; rw [c130b0]) | skip)
           by_cases c131 : t282 = true
           ·
            subst c131
            have q0 : 0 < t286.length := by
              rcases Nat.eq_zero_or_pos t286.length with z | z
              · rw [z] at c130b0; exact absurd c130b0 (by decide)
              · exact z
            have q1 : decide (0 < t286.length) = true := decide_eq_true q0
            have q2 : decide (0 < (t286.length : Int)) = true := decide_eq_true (by omega)
            clear c130b0
            (try clear c130b1)
            (try clear c130b2)
            clear q0
            rw [if_pos rfl] at H
            replace H := Option.bind_eq_some_iff.mp H
            obtain ⟨t309, A1320, H⟩ := H
            (try dsimp only at H)
            have A132 := Aside0.mk A1320
            clear A1320
            have H' := Aside0.mk H
            clear H
            obtain ⟨Ao133, co133, eo133⟩ := Kd.R_slice HO_27.out
            subst eo133
            go_wp2_with (first | (go_at_call 33; (with_reducible refine (laws_qRises.calls kj88 _ _ t286 true _ ?side1 ?side2 A128.out).mono ?_); (case side1 => repeat (first | exact (Kd.R_reads' HO_27.out).2.2 | (with_reducible refine Kd.C_alloc ?_ _) | (with_reducible refine Kd.C_drewN ?_ _) | (with_reducible refine Kd.C_drew ?_))); (case side2 => exact (Kd.R_reads' HO_27.out).2.1); rintro e w' ⟨rfl, ⟨nd, rfl⟩⟩) | (go_at_call 35; (with_reducible refine (laws_qHas.calls kj88 _ _ t286 t281 t309 _ ?side1 ?side2 A132.out).mono ?_); (case side1 => repeat (first | exact (Kd.R_reads' HO_27.out).2.2 | (with_reducible refine Kd.C_alloc ?_ _) | (with_reducible refine Kd.C_drewN ?_ _) | (with_reducible refine Kd.C_drew ?_))); (case side2 => exact (Kd.R_reads' HO_27.out).2.1); rintro e w' ⟨rfl, ⟨nd, rfl⟩⟩))
            go_meet
            case rel => exact ⟨_, (!t309), (by first | rfl | (simp; done) | (simp [*]; done)), H', ⟨by have := HJ19.out; have := HJ88.out; first | omega | exact Nat.le_refl _⟩, ⟨by (with_reducible repeat (first | apply Kd.R_alloc | apply Kd.R_drewN | apply Kd.R_drew)); exact HO_27.out⟩, ⟨by (with_reducible repeat (first | refine blk_drewN ?_ _ | refine blk_drew ?_ | refine blk_alloc ?_ _)); exact BK266.out⟩, ⟨by (with_reducible repeat (first | refine blk_drewN ?_ _ | refine blk_drew ?_ | refine blk_alloc ?_ _)); exact BK267.out⟩, ⟨bw_⟩⟩
           ·
            replace c131 := Bool.eq_false_iff.mpr c131
            subst c131
            have q0 : ¬ 0 < t286.length := by
              intro z
              have z2 : decide ((t286.length : Int) > 0) = true := decide_eq_true (by omega)
              rw [z2] at c130b0
              exact absurd c130b0 (by decide)
            have q1 : decide (0 < t286.length) = false := decide_eq_false q0
            have q2 : decide (0 < (t286.length : Int)) = false := decide_eq_false (by omega)
            clear c130b0
            (try clear c130b1)
            (try clear c130b2)
            clear q0
            rw [if_neg (show ¬ (false = true) by decide)] at H
            have H' := Aside0.mk H
            clear H
            obtain ⟨Ao134, co134, eo134⟩ := Kd.R_slice HO_27.out
            subst eo134
            go_wp2_with (first | (go_at_call 33; (with_reducible refine (laws_qRises.calls kj88 _ _ t286 true _ ?side1 ?side2 A128.out).mono ?_); (case side1 => repeat (first | exact (Kd.R_reads' HO_27.out).2.2 | (with_reducible refine Kd.C_alloc ?_ _) | (with_reducible refine Kd.C_drewN ?_ _) | (with_reducible refine Kd.C_drew ?_))); (case side2 => exact (Kd.R_reads' HO_27.out).2.1); rintro e w' ⟨rfl, ⟨nd, rfl⟩⟩))
            go_meet
            case rel => exact ⟨_, (false), (by first | rfl | (simp; done) | (simp [*]; done)), H', ⟨by have := HJ19.out; have := HJ88.out; first | omega | exact Nat.le_refl _⟩, ⟨by (with_reducible repeat (first | apply Kd.R_alloc | apply Kd.R_drewN | apply Kd.R_drew)); exact HO_27.out⟩, ⟨by (with_reducible repeat (first | refine blk_drewN ?_ _ | refine blk_drew ?_ | refine blk_alloc ?_ _)); exact BK266.out⟩, ⟨by (with_reducible repeat (first | refine blk_drewN ?_ _ | refine blk_drew ?_ | refine blk_alloc ?_ _)); exact BK267.out⟩, ⟨bw_⟩⟩
         ·
          replace c129 := Bool.eq_false_iff.mpr c129
          subst c129
          rw [if_neg (show ¬ (false = true) by decide)] at H
          exact absurd (H.trans (congrArg some HRT.out)) (by cases kj88 <;> simp [laws_FnRunnersMeetOfAll.j4])
        ·
         replace c127 := Bool.eq_false_iff.mpr c127
         subst c127
         rw [if_neg (show ¬ (false = true) by decide)] at H
         have H' := Aside0.mk H
         clear H
         go_wp2
         go_meet
         case rel => exact ⟨_, (false), (by first | rfl | (simp; done) | (simp [*]; done)), H', ⟨by have := HJ19.out; have := HJ88.out; first | omega | exact Nat.le_refl _⟩, ⟨by (with_reducible repeat (first | apply Kd.R_alloc | apply Kd.R_drewN | apply Kd.R_drew)); exact HO_27.out⟩, ⟨by (with_reducible repeat (first | refine blk_drewN ?_ _ | refine blk_drew ?_ | refine blk_alloc ?_ _)); exact BK266.out⟩, ⟨by (with_reducible repeat (first | refine blk_drewN ?_ _ | refine blk_drew ?_ | refine blk_alloc ?_ _)); exact BK267.out⟩, ⟨bw_⟩⟩
end Go.Proofs.Ytgobnhoblofglaa.PFnRunnersMeetOfAll
