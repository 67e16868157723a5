-- Laid by a program of this session's (wip/gen/printp.sh): the functions that the law reaches, each with its walk.
import Derived.Test.YtgobnhoblofglaaPFnRunnersMeetx0
import Derived.Test.YtgobnhoblofglaaPFnRunnersMeetx1
import Derived.Test.YtgobnhoblofglaaPFnRunnersMeetx2
import Derived.Test.YtgobnhoblofglaaPFnRunnersMeetx3
import Derived.Test.YtgobnhoblofglaaPFnRunnersMeetx4
import Derived.Test.YtgobnhoblofglaaPFnRunnersMeetx5
import Derived.Test.YtgobnhoblofglaaPFnRunnersMeetx6
import Derived.Test.YtgobnhoblofglaaPFnRunnersMeetx7
import Derived.Test.YtgobnhoblofglaaPFnRunnersMeetx8
import Derived.Test.YtgobnhoblofglaaPFnRunnersMeetx9
import Derived.Test.YtgobnhoblofglaaPFnRunnersMeetx10
import Derived.Test.YtgobnhoblofglaaPFnRunnersMeetx11
import Derived.Test.YtgobnhoblofglaaPFnRunnersMeetx12
namespace Go.Proofs.Ytgobnhoblofglaa.PFnRunnersMeet
open Go.RowKit Go.Proofs.YtgobnhoblofglaaW.PrintWords Go.Proofs.YtgobnhoblofglaaW.PrintLast Go.Proofs.YtgobnhoblofglaaW.PrintMore
attribute [local go_sem] max2_int min2_int max_two min_two max_three min_three max_four min_four   -- for this text's walks alone
set_option linter.unusedVariables false
set_option linter.unusedSimpArgs false
set_option maxHeartbeats 80000000 in
set_option maxRecDepth 100000 in
theorem laws_FnRunnersMeet.case3 (k : Nat) (A0 : Option Addr) (c0 : Nat) (l0 : List Int) (A1 : Option Addr) (c1 : Nat) (l1 : List Int) (r : Bool) (w : World) : (laws_FnRunnersMeet.part k A0 c0 l0 A1 c1 l1 r w).2.2.1 := by
        intro HRT hu45 HR0 HC0 HR1 HC1 A3 t398 t399 t400 t401 t402 t403 A5 t406 t409 A6 t410 t413 A7 t414 t415 A8 t416 t417 A9 t418 t419 t420 A10 t421 t422 t423 A11 t424 t427 A12 t428 t431 A13 t432 t433 A14 t434 t435 A15 z1_ nd z2_ w17 gb404 w18 GW404 GE404 gb405 w19 GW405 GE405 NB404_405 NB405_404 hnb20 hnc20 w23 v407 w26 v411 w29 w32 w35 w38 w41 v425 w44 v429 w47 w50 HO408 HO412 HO426 HO430 z3_ z4_ z5_ z6_ u165 u166 u167 u168 u169 u170 u171 u172 u173 u174 u175 u176 u177 u178 u179 u180 u181 u182 u183 u184 u185 u186 u187 u188 u189 u190 u191 u192 u193 u194 u195 u196 u197 u198 u199 u200 u201 u202 u203 u204 u205 u206 u207 u208 u209 u210 u211 u212 u213 u214 u215 u216 u217 u218 u219 u220 u221 u222 u223 u224 u225 u226 u227 u228 u229 u230 u231 u232 u233 u234 u235 u236 u237 HO_9 z7_ z8_ z9_ z10_ kj15 HJ15 wc u4 u32 u33 u34 u35 u36 u240 u241 u242 u243 u244 u245 u246 u247 u248 u249 u250 u251 u252 u253 u254 u255 u256 u257 u258 u259 u260 u261 u262 u263 u264 u265 u266 u267 u268 u269 u270 u271 u272 u273 u274 u275 u276 u277 u278 u279 u280 u281 u282 u283 u284 u285 u286 u287 u288 u289 u290 u291 u292 u293 u294 u295 u296 u297 u298 u299 u300 u301 u302 u303 u304 u305 u306 u307 u308 u309 u310 u311 u312 u313 u314 u315 u316 u317 u318 HO_23 BK404 BK405 HB kj85 HJ85 HC123 z11_ z12_ z13_ z14_ z15_ z16_ z17_ z18_
        have H := HC123.out
        clear HC123
        by_cases c124 : t427 = true
        ·
         subst c124
         rw [if_pos rfl] at H
         replace H := Option.bind_eq_some_iff.mp H
         obtain ⟨t446, A1250, H⟩ := H
         (try dsimp only at H)
         have A125 := Aside0.mk A1250
         clear A1250
         by_cases c126 : t446 = true
         ·
          subst c126
          rw [if_pos rfl] at H
          by_cases c127 : ((decide ((t424.length : Int) > 0)) != t420) = true
          ·
           rw [if_pos c127] at H
           have c127b0 : ((decide ((t424.length : Int) > 0)) != t420) = true := c127
           (try (have c127b1 : decide ((decide ((t424.length : Int) > 0)) = t420) = false := by simpa using c127))
           (try (have c127b2 : ((decide ((t424.length : Int) > 0)) == t420) = false := by simpa using c127))
           (try (have c127b3 : ¬ ((decide ((t424.length : Int) > 0)) = t420) := by simpa using c127))
           clear c127
           (first | rw [c127b0] | (simp only [i64_w, i32_w]; rw [c127b0]) | skip)
           exact absurd (H.trans (congrArg some HRT.out)) (by cases kj85 <;> simp [laws_FnRunnersMeet.j4])
          ·
           rw [if_neg c127] at H
           have c127b0 : ((decide ((t424.length : Int) > 0)) != t420) = false := by simpa using c127
           (try (have c127b1 : decide ((decide ((t424.length : Int) > 0)) = t420) = true := by simpa using c127))
           (try (have c127b2 : ((decide ((t424.length : Int) > 0)) == t420) = true := by simpa using c127))
           clear c127
           (first | rw [c127b0] | (simp only [i64_w, i32_w]; rw [c127b0]) | skip)
           by_cases c128 : t420 = true
           ·
            subst c128
            have q0 : (t424.length : Int) > 0 := of_decide_eq_true (bne_eq_false_iff_eq.mp c127b0)
            have q1 : decide (0 < t424.length) = true := decide_eq_true (by omega)
            have q2 : decide (0 < (t424.length : Int)) = true := decide_eq_true (by omega)
            clear q0 c127b0
            (try clear c127b1)
            (try clear c127b2)
            rw [if_pos rfl] at H
            replace H := Option.bind_eq_some_iff.mp H
            obtain ⟨t447, A1290, H⟩ := H
            (try dsimp only at H)
            have A129 := Aside0.mk A1290
            clear A1290
            have H' := Aside0.mk H
            clear H
            obtain ⟨Ao130, co130, eo130⟩ := Kd.R_slice HO_23.out
            subst eo130
            go_wp2_with (first | (go_at_call 33; (with_reducible refine (laws_qRises.calls kj85 _ _ t424 true _ ?side1 ?side2 A125.out).mono ?_); (case side1 => repeat (first | exact (Kd.R_reads' HO_23.out).2.2 | (with_reducible refine Kd.C_alloc ?_ _) | (with_reducible refine Kd.C_drewN ?_ _) | (with_reducible refine Kd.C_drew ?_))); (case side2 => exact (Kd.R_reads' HO_23.out).2.1); rintro e w' ⟨rfl, ⟨nd, rfl⟩⟩) | (go_at_call 35; (with_reducible refine (laws_qHas.calls kj85 _ _ t424 t419 t447 _ ?side1 ?side2 A129.out).mono ?_); (case side1 => repeat (first | exact (Kd.R_reads' HO_23.out).2.2 | (with_reducible refine Kd.C_alloc ?_ _) | (with_reducible refine Kd.C_drewN ?_ _) | (with_reducible refine Kd.C_drew ?_))); (case side2 => exact (Kd.R_reads' HO_23.out).2.1); rintro e w' ⟨rfl, ⟨nd, rfl⟩⟩))
            go_meet
            case rel => exact ⟨_, (!t447), (by first | rfl | (simp; done) | (simp [*]; done)), H', ⟨by have := HJ15.out; have := HJ85.out; first | omega | exact Nat.le_refl _⟩, ⟨by (with_reducible repeat (first | apply Kd.R_alloc | apply Kd.R_drewN | apply Kd.R_drew)); exact HO_23.out⟩, ⟨bk_⟩, ⟨bk_⟩, ⟨bw_⟩⟩
           ·
            replace c128 := Bool.eq_false_iff.mpr c128
            subst c128
            have q0 : ¬ (t424.length : Int) > 0 := of_decide_eq_false (bne_eq_false_iff_eq.mp c127b0)
            have q1 : decide (0 < t424.length) = false := decide_eq_false (by omega)
            have q2 : decide (0 < (t424.length : Int)) = false := decide_eq_false (by omega)
            clear q0 c127b0
            (try clear c127b1)
            (try clear c127b2)
            rw [if_neg (show ¬ (false = true) by decide)] at H
            have H' := Aside0.mk H
            clear H
            obtain ⟨Ao131, co131, eo131⟩ := Kd.R_slice HO_23.out
            subst eo131
            go_wp2_with (first | (go_at_call 33; (with_reducible refine (laws_qRises.calls kj85 _ _ t424 true _ ?side1 ?side2 A125.out).mono ?_); (case side1 => repeat (first | exact (Kd.R_reads' HO_23.out).2.2 | (with_reducible refine Kd.C_alloc ?_ _) | (with_reducible refine Kd.C_drewN ?_ _) | (with_reducible refine Kd.C_drew ?_))); (case side2 => exact (Kd.R_reads' HO_23.out).2.1); rintro e w' ⟨rfl, ⟨nd, rfl⟩⟩))
            go_meet
            case rel => exact ⟨_, (false), (by first | rfl | (simp; done) | (simp [*]; done)), H', ⟨by have := HJ15.out; have := HJ85.out; first | omega | exact Nat.le_refl _⟩, ⟨by (with_reducible repeat (first | apply Kd.R_alloc | apply Kd.R_drewN | apply Kd.R_drew)); exact HO_23.out⟩, ⟨bk_⟩, ⟨bk_⟩, ⟨bw_⟩⟩
         ·
          replace c126 := Bool.eq_false_iff.mpr c126
          subst c126
          rw [if_neg (show ¬ (false = true) by decide)] at H
          exact absurd (H.trans (congrArg some HRT.out)) (by cases kj85 <;> simp [laws_FnRunnersMeet.j4])
        ·
         replace c124 := Bool.eq_false_iff.mpr c124
         subst c124
         rw [if_neg (show ¬ (false = true) by decide)] at H
         have H' := Aside0.mk H
         clear H
         go_wp2
         go_meet
         case rel => exact ⟨_, (false), (by first | rfl | (simp; done) | (simp [*]; done)), H', ⟨by have := HJ15.out; have := HJ85.out; first | omega | exact Nat.le_refl _⟩, ⟨by (with_reducible repeat (first | apply Kd.R_alloc | apply Kd.R_drewN | apply Kd.R_drew)); exact HO_23.out⟩, ⟨bk_⟩, ⟨bk_⟩, ⟨bw_⟩⟩
end Go.Proofs.Ytgobnhoblofglaa.PFnRunnersMeet
