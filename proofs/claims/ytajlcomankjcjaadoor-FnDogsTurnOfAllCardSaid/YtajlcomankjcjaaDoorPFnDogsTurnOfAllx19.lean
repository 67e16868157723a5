-- Laid by a program of this session's (wip/gen/printp.sh): the functions that the law reaches, each with its walk.
import Derived.Test.YtajlcomankjcjaaDoorPFnDogsTurnOfAllx0
import Derived.Test.YtajlcomankjcjaaDoorPFnDogsTurnOfAllx1
import Derived.Test.YtajlcomankjcjaaDoorPFnDogsTurnOfAllx2
import Derived.Test.YtajlcomankjcjaaDoorPFnDogsTurnOfAllx5
import Derived.Test.YtajlcomankjcjaaDoorPFnDogsTurnOfAllx6
import Derived.Test.YtajlcomankjcjaaDoorPFnDogsTurnOfAllx7
import Derived.Test.YtajlcomankjcjaaDoorPFnDogsTurnOfAllx8
import Derived.Test.YtajlcomankjcjaaDoorPFnDogsTurnOfAllx9
import Derived.Test.YtajlcomankjcjaaDoorPFnDogsTurnOfAllx10
import Derived.Test.YtajlcomankjcjaaDoorPFnDogsTurnOfAllx11
import Derived.Test.YtajlcomankjcjaaDoorPFnDogsTurnOfAllx12
namespace Go.Proofs.YtajlcomankjcjaaDoor.PFnDogsTurnOfAll
open Go.RowKit Go.Proofs.YtajlcomankjcjaaDoorW.PrintWords Go.Proofs.YtajlcomankjcjaaDoorW.PrintLast Go.Proofs.YtajlcomankjcjaaDoorW.PrintMore
attribute [local go_sem] max2_int min2_int max_two min_two max_three min_three max_four min_four   -- for this text's walks alone
set_option linter.unusedVariables false
set_option linter.unusedSimpArgs false

attribute [local go_sem high] eqA23
set_option maxHeartbeats 80000000 in
set_option maxRecDepth 100000 in
theorem laws_FnDogsTurnOfAll.case7 (k : Nat) (a0_0 : Int) (a0_1 : Int) (a0_2 : Int) (a0_3 : Int) (a1 : Int) (a2_0 : Int) (a2_1 : Int) (a2_2 : Int) (a2_3 : Int) (r : Bool) (w : World) : (laws_FnDogsTurnOfAll.part k a0_0 a0_1 a0_2 a0_3 a1 a2_0 a2_1 a2_2 a2_3 r w).2.2.2.2.2.2.1 := by
       intro hL0 HRT hu23 t307 t310 A4 t311 t314 A5 t315 t316 t317 A6 t318 t319 t320 A7 t321 t322 t323 A8 t324 t325 t326 A9 z1_ gb305 w11 GW305 GE305 gb306 w12 GW306 GE306 NB305_306 NB306_305 hnb13 hnc13 hcz14_0 hcz14_1 hcz14_2 hcz14_3 hfz14_0 hfz14_1 hfz14_2 hfz14_3 w15 v308 hcz16_0 hcz16_1 hcz16_2 hcz16_3 hfz16_0 hfz16_1 hfz16_2 hfz16_3 w17 v312 hcz18_0 hcz18_1 hcz18_2 hcz18_3 hfz18_0 hfz18_1 hfz18_2 hfz18_3 w19 hcz20_0 hcz20_1 hcz20_2 hcz20_3 hfz20_0 hfz20_1 hfz20_2 hfz20_3 w21 hcz22_0 hcz22_1 hcz22_2 hcz22_3 hfz22_0 hfz22_1 hfz22_2 hfz22_3 w23 hcz24_0 hcz24_1 hcz24_2 hcz24_3 hfz24_0 hfz24_1 hfz24_2 hfz24_3 w25 HO309 HO313 z2_ z3_ z4_ z5_ u120 u121 u122 u123 u124 u125 u126 u127 u128 u129 u130 u131 u132 u133 u134 u135 u136 u137 u138 u139 u140 u141 u142 u143 u144 u145 u146 u147 u148 u149 u150 u151 u152 u153 u154 u155 u156 u157 u158 u159 u160 u161 u162 u163 u164 u165 u166 u167 u168 u169 u170 u171 u172 u173 u174 u175 u176 u177 u178 u179 u180 u181 u182 HO_7 z6_ z7_ z8_ kj9 HJ9 z9_ u6 u23 u24 u25 u26 u27 u28 u29 u185 u186 u187 u188 u189 u190 u191 u192 u193 u194 u195 u196 u197 u198 u199 u200 u201 u202 u203 u204 u205 u206 u207 u208 u209 u210 u211 u212 u213 u214 u215 u216 u217 u218 u219 u220 u221 u222 u223 u224 u225 u226 u227 u228 u229 u230 u231 u232 u233 u234 u235 u236 u237 u238 u239 u240 u241 u242 u243 u244 u245 u246 u247 u248 u249 u250 u251 u252 u253 u254 u255 u256 u257 u258 u259 u260 u261 u262 u263 u264 u265 u266 u267 u268 u269 u270 u271 u272 u273 u274 u275 u276 u277 u278 u279 u280 u281 u282 u283 u284 u285 u286 u287 u288 u289 u290 u291 u292 u293 u294 u295 u296 u297 u298 u299 u300 u301 u302 u303 u304 u305 u306 u307 u308 u309 u310 u311 u312 u313 u314 u315 u316 u317 u318 u319 u320 u321 u322 u323 u324 u325 u326 u327 u328 u329 u330 u331 u332 u333 u334 u335 u336 u337 u338 u339 u340 u341 u342 u343 u344 u345 u346 u347 u348 u349 u350 u351 u352 u353 u354 u355 u356 u357 u358 u359 u360 u361 u362 u363 u364 u365 kj53 HJ53 t361 t362 t363 t364 t365 A111 t366 t367 t368 t369 t370 A112 t371 t372 t373 A113 t374 t375 t376 A114 t377 t378 t379 A115 t380 t381 t382 A116 t383 t384 t385 t386 t387 A117 t388 t389 t390 t391 t392 A118 t393 t394 t395 t396 t397 A119 t399 t400 t401 t402 t403 A120 t405 t406 A121 t407 t408 A122 HC123 hnb124 hnc124 hcz125_0 hcz125_1 hcz125_2 hcz125_3 hfz125_0 hfz125_1 hfz125_2 hfz125_3 w126 hcz127_0 hcz127_1 hcz127_2 hcz127_3 hfz127_0 hfz127_1 hfz127_2 hfz127_3 w128 hcz129_0 hcz129_1 hcz129_2 hcz129_3 hfz129_0 hfz129_1 hfz129_2 hfz129_3 w130 hcz131_0 hcz131_1 hcz131_2 hcz131_3 hfz131_0 hfz131_1 hfz131_2 hfz131_3 w132 hcz133_0 hcz133_1 hcz133_2 hcz133_3 hfz133_0 hfz133_1 hfz133_2 hfz133_3 w134 hcz135_0 hcz135_1 hcz135_2 hcz135_3 hfz135_0 hfz135_1 hfz135_2 hfz135_3 w136 hcz137_0 hcz137_1 hcz137_2 hcz137_3 hfz137_0 hfz137_1 hfz137_2 hfz137_3 w138 hcz139_0 hcz139_1 hcz139_2 hcz139_3 hfz139_0 hfz139_1 hfz139_2 hfz139_3 w140 hcz141_0 hcz141_1 hcz141_2 hcz141_3 hfz141_0 hfz141_1 hfz141_2 hfz141_3 w142 gb398 w143 GW398 GE398 NB305_398 NB398_305 NB306_398 NB398_306 hnb144 hnc144 hnb145 hnc145 hcz146_0 hcz146_1 hcz146_2 hcz146_3 hfz146_0 hfz146_1 hfz146_2 hfz146_3 hcz147_0 hcz147_1 hcz147_2 hcz147_3 hfz147_0 hfz147_1 hfz147_2 hfz147_3 w148 gb404 w149 GW404 GE404 NB305_404 NB404_305 NB306_404 NB404_306 NB398_404 NB404_398 hnb150 hnc150 hnb151 hnc151 hnb152 hnc152 hcz153_0 hcz153_1 hcz153_2 hcz153_3 hfz153_0 hfz153_1 hfz153_2 hfz153_3 hcz154_0 hcz154_1 hcz154_2 hcz154_3 hfz154_0 hfz154_1 hfz154_2 hfz154_3 w155 hcz156_0 hcz156_1 hcz156_2 hcz156_3 hfz156_0 hfz156_1 hfz156_2 hfz156_3 w157 BK305 BK306 BK398 BK404 HB z10_ z11_ z12_ z13_ wc u442 u443 u444 u445 u446 u447 u448 u449 u450 u451 u452 u453 u454 u455 u456 u457 u458 u459 u460 u461 u462 u463 u464 u465 u466 u467 u468 u469 u470 u471 u472 u473 u474 u475 u476 u477 u478 u479 u480 u481 u482 u483 u484 u485 u486 u487 u488 u489 u490 u491 u492 u493 u494 u495 u496 u497 u498 u499 u500 u501 u502 u503 u504 u505 u506 u507 u508 u509 u510 u511 u512 u513 u514 u515 u516 u517 u518 u519 u520 u521 u522 u523 u524 u525 u526 u527 u528 u529 u530 u531 u532 u533 u534 u535 u536 u537 u538 u539 u540 u541 u542 u543 u544 u545 u546 u547 u548 u549 u550 u551 u552 u553 u554 u555 u556 u557 u558 u559 u560 u561 u562 u563 u564 u565 u566 u567 u568 u569 u570 hcut
       clear HC123
       (try clear hcz125_0); (try clear hcz125_1); (try clear hcz125_2); (try clear hcz125_3); (try clear hcz127_0); (try clear hcz127_1); (try clear hcz127_2); (try clear hcz127_3); (try clear hcz129_0); (try clear hcz129_1); (try clear hcz129_2); (try clear hcz129_3); (try clear hcz131_0); (try clear hcz131_1); (try clear hcz131_2); (try clear hcz131_3); (try clear hcz133_0); (try clear hcz133_1); (try clear hcz133_2); (try clear hcz133_3); (try clear hcz135_0); (try clear hcz135_1); (try clear hcz135_2); (try clear hcz135_3); (try clear hcz137_0); (try clear hcz137_1); (try clear hcz137_2); (try clear hcz137_3); (try clear hcz139_0); (try clear hcz139_1); (try clear hcz139_2); (try clear hcz139_3); (try clear hcz141_0); (try clear hcz141_1); (try clear hcz141_2); (try clear hcz141_3); (try clear hcz146_0); (try clear hcz146_1); (try clear hcz146_2); (try clear hcz146_3); (try clear hcz147_0); (try clear hcz147_1); (try clear hcz147_2); (try clear hcz147_3); (try clear hcz153_0); (try clear hcz153_1); (try clear hcz153_2); (try clear hcz153_3); (try clear hcz154_0); (try clear hcz154_1); (try clear hcz154_2); (try clear hcz154_3); (try clear hcz156_0); (try clear hcz156_1); (try clear hcz156_2); (try clear hcz156_3); (try clear hfz125_0); (try clear hfz125_1); (try clear hfz125_2); (try clear hfz125_3); (try clear hfz127_0); (try clear hfz127_1); (try clear hfz127_2); (try clear hfz127_3); (try clear hfz129_0); (try clear hfz129_1); (try clear hfz129_2); (try clear hfz129_3); (try clear hfz131_0); (try clear hfz131_1); (try clear hfz131_2); (try clear hfz131_3); (try clear hfz133_0); (try clear hfz133_1); (try clear hfz133_2); (try clear hfz133_3); (try clear hfz135_0); (try clear hfz135_1); (try clear hfz135_2); (try clear hfz135_3); (try clear hfz137_0); (try clear hfz137_1); (try clear hfz137_2); (try clear hfz137_3); (try clear hfz139_0); (try clear hfz139_1); (try clear hfz139_2); (try clear hfz139_3); (try clear hfz141_0); (try clear hfz141_1); (try clear hfz141_2); (try clear hfz141_3); (try clear hfz146_0); (try clear hfz146_1); (try clear hfz146_2); (try clear hfz146_3); (try clear hfz147_0); (try clear hfz147_1); (try clear hfz147_2); (try clear hfz147_3); (try clear hfz153_0); (try clear hfz153_1); (try clear hfz153_2); (try clear hfz153_3); (try clear hfz154_0); (try clear hfz154_1); (try clear hfz154_2); (try clear hfz154_3); (try clear hfz156_0); (try clear hfz156_1); (try clear hfz156_2); (try clear hfz156_3)
       obtain ⟨kq, x570_122, rfl, HA, HJ122, BK305, BK306, BK398, BK404, HB⟩ := hcut
       cases kq with
       | zero => exact absurd HA.out (by simp [laws_FnDogsTurnOfAll.j6])
       | succ kj122 =>
        have H := HA.out
        clear HA
        simp only [laws_FnDogsTurnOfAll.j6] at H
        by_cases c194 : x570_122 = true
        ·
         subst c194
         rw [if_pos rfl] at H
         exact absurd ((Option.some.inj H).trans HRT.out) (by decide)
        ·
         replace c194 := Bool.eq_false_iff.mpr c194
         subst c194
         rw [if_neg (show ¬ (false = true) by decide)] at H
         by_cases c195 : t365 = true
         ·
          subst c195
          rw [if_pos rfl] at H
          replace H := Option.bind_eq_some_iff.mp H
          obtain ⟨⟨t410, t411, t412⟩, A1960, H⟩ := H
          (try dsimp only at H)
          have A196 := Aside0.mk A1960
          clear A1960
          replace H := Option.bind_eq_some_iff.mp H
          obtain ⟨⟨t413, t414, t415⟩, A1970, H⟩ := H
          (try dsimp only at H)
          have A197 := Aside0.mk A1970
          clear A1970
          replace H := Option.bind_eq_some_iff.mp H
          obtain ⟨⟨t416, t417, t418, t419, t420⟩, A1980, H⟩ := H
          (try dsimp only at H)
          have A198 := Aside0.mk A1980
          clear A1980
          replace H := Option.bind_eq_some_iff.mp H
          obtain ⟨⟨t422, t423, t424, t425, t426⟩, A1990, H⟩ := H
          (try dsimp only at H)
          have A199 := Aside0.mk A1990
          clear A1990
          replace H := Option.bind_eq_some_iff.mp H
          obtain ⟨t428, A2000, H⟩ := H
          (try dsimp only at H)
          have A200 := Aside0.mk A2000
          clear A2000
          by_cases c201 : t428 = true
          ·
           subst c201
           rw [if_pos rfl] at H
           replace H := Option.bind_eq_some_iff.mp H
           obtain ⟨t429, A2020, H⟩ := H
           (try dsimp only at H)
           have A202 := Aside0.mk A2020
           clear A2020
           by_cases c203 : t429 = true
           ·
            subst c203
            rw [if_pos rfl] at H
            by_cases c204 : t412 = true
            ·
             subst c204
             rw [if_pos rfl] at H
             by_cases c205 : (wrap64 (t410 * t362)) = (wrap64 ((wrap64 (t411 * t361)) * a2_0))
             ·
              rw [if_pos c205] at H
              have c205b0 : ((wrap64 (t410 * t362)) == (wrap64 ((wrap64 (t411 * t361)) * a2_0))) = true := beq_iff_eq.mpr c205
              have c205b1 : ((wrap64 (t410 * t362)) != (wrap64 ((wrap64 (t411 * t361)) * a2_0))) = false := bne_eq_false_iff_eq.mpr c205
              clear c205
              by_cases c206 : t415 = true
              ·
               subst c206
               rw [if_pos rfl] at H
               by_cases c207 : (wrap64 ((wrap64 (t413 * t364)) * t411)) = (wrap64 ((wrap64 (t414 * t410)) * t363))
               ·
                rw [if_pos c207] at H
                have c207b0 : ((wrap64 ((wrap64 (t413 * t364)) * t411)) == (wrap64 ((wrap64 (t414 * t410)) * t363))) = true := beq_iff_eq.mpr c207
                have c207b1 : ((wrap64 ((wrap64 (t413 * t364)) * t411)) != (wrap64 ((wrap64 (t414 * t410)) * t363))) = false := bne_eq_false_iff_eq.mpr c207
                clear c207
                by_cases c208 : t420 = true
                ·
                 subst c208
                 rw [if_pos rfl] at H
                 by_cases c209 : (!(t416 == a2_0) || (!(t417 == a2_1) || (!(t418 == a2_2) || (!(t419 == a2_3))))) = true
                 ·
                  rw [if_pos c209] at H
                  have c209b0 : (!(t416 == a2_0) || (!(t417 == a2_1) || (!(t418 == a2_2) || (!(t419 == a2_3))))) = true := c209
                  clear c209
                  exact absurd ((Option.some.inj H).trans HRT.out) (by decide)
                 ·
                  rw [if_neg c209] at H
                  have c209b0 : (!(t416 == a2_0) || (!(t417 == a2_1) || (!(t418 == a2_2) || (!(t419 == a2_3))))) = false := by simpa using c209
                  clear c209
                  by_cases c210 : t426 = true
                  ·
                   subst c210
                   rw [if_pos rfl] at H
                   by_cases c211 : (!(t422 == a2_0) || (!(t423 == a2_1) || (!(t424 == a2_2) || (!(t425 == a2_3))))) = true
                   ·
                    rw [if_pos c211] at H
                    have c211b0 : (!(t422 == a2_0) || (!(t423 == a2_1) || (!(t424 == a2_2) || (!(t425 == a2_3))))) = true := c211
                    clear c211
                    exact absurd ((Option.some.inj H).trans HRT.out) (by decide)
                   ·
                    rw [if_neg c211] at H
                    have c211b0 : (!(t422 == a2_0) || (!(t423 == a2_1) || (!(t424 == a2_2) || (!(t425 == a2_3))))) = false := by simpa using c211
                    clear c211
                    by_cases c212 : (wrap64 (t377 * t372)) = (wrap64 ((wrap64 (t378 * t371)) * a2_3))
                    ·
                     rw [if_pos c212] at H
                     have c212b0 : ((wrap64 (t377 * t372)) == (wrap64 ((wrap64 (t378 * t371)) * a2_3))) = true := beq_iff_eq.mpr c212
                     have c212b1 : ((wrap64 (t377 * t372)) != (wrap64 ((wrap64 (t378 * t371)) * a2_3))) = false := bne_eq_false_iff_eq.mpr c212
                     clear c212
                     by_cases c213 : (wrap64 (t371 * (wrap64 (a2_1 + a2_2)))) = (wrap64 (t372 * a2_0))
                     ·
                      rw [if_pos c213] at H
                      have c213b0 : ((wrap64 (t371 * (wrap64 (a2_1 + a2_2)))) == (wrap64 (t372 * a2_0))) = true := beq_iff_eq.mpr c213
                      have c213b1 : ((wrap64 (t371 * (wrap64 (a2_1 + a2_2)))) != (wrap64 (t372 * a2_0))) = false := bne_eq_false_iff_eq.mpr c213
                      clear c213
                      by_cases c214 : (wrap64 ((wrap64 (t383 * t386)) + (wrap64 (t385 * t384)))) = (wrap64 ((wrap64 (a2_0 * t384)) * t386))
                      ·
                       rw [if_pos c214] at H
                       have c214b0 : ((wrap64 ((wrap64 (t383 * t386)) + (wrap64 (t385 * t384)))) == (wrap64 ((wrap64 (a2_0 * t384)) * t386))) = true := beq_iff_eq.mpr c214
                       have c214b1 : ((wrap64 ((wrap64 (t383 * t386)) + (wrap64 (t385 * t384)))) != (wrap64 ((wrap64 (a2_0 * t384)) * t386))) = false := bne_eq_false_iff_eq.mpr c214
                       clear c214
                       obtain rfl := Option.some.inj H
                       have hnb215 := NB306_305.out
                       have hnc215 := NB305_306.out
                       have hnb216 := NB306_398.out
                       have hnc216 := NB398_306.out
                       have hnb217 := NB306_404.out
                       have hnc217 := NB404_306.out
                       have hcz218_0 : wc.cell? ⟨gb306, 0, none⟩ = some (.int .i64 a2_0) := (blk_cell BK306.out 0).trans rfl
                       have hcz218_1 : wc.cell? ⟨gb306, 1, none⟩ = some (.int .i64 a2_1) := (blk_cell BK306.out 1).trans rfl
                       have hcz218_2 : wc.cell? ⟨gb306, 2, none⟩ = some (.int .i64 a2_2) := (blk_cell BK306.out 2).trans rfl
                       have hcz218_3 : wc.cell? ⟨gb306, 3, none⟩ = some (.int .i64 a2_3) := (blk_cell BK306.out 3).trans rfl
                       have hfz218_0 := blk_frozen BK306.out 0
                       have hfz218_1 := blk_frozen BK306.out 1
                       have hfz218_2 := blk_frozen BK306.out 2
                       have hfz218_3 := blk_frozen BK306.out 3
                       go_wp2_with (first | ((with_reducible refine gate_callee (f := 6) rfl ?_); refine goesL_ (some 574) rfl rfl Tryd.func6 (by kernel_rfl) rfl #[.agg #[.int .i64 a2_0, .int .i64 a2_1, .int .i64 a2_2, .int .i64 a2_3], .int .i64 1] rfl (by (try simp only [List.map_toArray, List.map_cons, List.map_nil]); first | done | rfl | (simp only [List.length_drop, List.length_take]; rfl)) ?_; (with_reducible refine (impl_ApartAfterTurn.calls kj122 a2_0 a2_1 a2_2 a2_3 1 t410 t411 true _ A196.out).mono ?_); rintro e w219 ⟨rfl, hb⟩; refine ⟨_, rfl, ?_⟩; have n0_ := Aside0.mk (blk_below (g := gb305) (o := .cells #[.int .i64 a0_0, .int .i64 a0_1, .int .i64 a0_2, .int .i64 a0_3] 23 (0, 0)) bk_ hb); have n1_ := Aside0.mk (blk_below (g := gb306) (o := .cells #[.int .i64 a2_0, .int .i64 a2_1, .int .i64 a2_2, .int .i64 a2_3] 23 (0, 0)) bk_ hb); have n2_ := Aside0.mk (blk_below (g := gb398) (o := .cells #[.int .i64 t393, .int .i64 t394, .int .i64 t395, .int .i64 t396] 23 (0, 0)) bk_ hb); have n3_ := Aside0.mk (blk_below (g := gb404) (o := .cells #[.int .i64 t399, .int .i64 t400, .int .i64 t401, .int .i64 t402] 23 (0, 0)) bk_ hb); have n4_ := Aside0.mk (below_step bw_ hb); clear BK305; clear BK306; clear BK398; clear BK404; clear HB; have BK305 := n0_; have BK306 := n1_; have BK398 := n2_; have BK404 := n3_; have HB := n4_; clear n0_ n1_ n2_ n3_ n4_; (try clear hb); (try clear hb2); (try clear hk); (try clear hi); have hcz220_0 : w219.cell? ⟨gb306, 0, none⟩ = some (.int .i64 a2_0) := (blk_cell BK306.out 0).trans rfl; have hcz220_1 : w219.cell? ⟨gb306, 1, none⟩ = some (.int .i64 a2_1) := (blk_cell BK306.out 1).trans rfl; have hcz220_2 : w219.cell? ⟨gb306, 2, none⟩ = some (.int .i64 a2_2) := (blk_cell BK306.out 2).trans rfl; have hcz220_3 : w219.cell? ⟨gb306, 3, none⟩ = some (.int .i64 a2_3) := (blk_cell BK306.out 3).trans rfl; have hfz220_0 := blk_frozen BK306.out 0; have hfz220_1 := blk_frozen BK306.out 1; have hfz220_2 := blk_frozen BK306.out 2; have hfz220_3 := blk_frozen BK306.out 3) | ((with_reducible refine gate_callee (f := 6) rfl ?_); refine goesL_ (some 580) rfl rfl Tryd.func6 (by kernel_rfl) rfl #[.agg #[.int .i64 a2_0, .int .i64 a2_1, .int .i64 a2_2, .int .i64 a2_3], .int .i64 2] rfl (by (try simp only [List.map_toArray, List.map_cons, List.map_nil]); first | done | rfl | (simp only [List.length_drop, List.length_take]; rfl)) ?_; (with_reducible refine (impl_ApartAfterTurn.calls kj122 a2_0 a2_1 a2_2 a2_3 2 t413 t414 true _ A197.out).mono ?_); rintro e w221 ⟨rfl, hb⟩; refine ⟨_, rfl, ?_⟩; have n0_ := Aside0.mk (blk_below (g := gb305) (o := .cells #[.int .i64 a0_0, .int .i64 a0_1, .int .i64 a0_2, .int .i64 a0_3] 23 (0, 0)) bk_ hb); have n1_ := Aside0.mk (blk_below (g := gb306) (o := .cells #[.int .i64 a2_0, .int .i64 a2_1, .int .i64 a2_2, .int .i64 a2_3] 23 (0, 0)) bk_ hb); have n2_ := Aside0.mk (blk_below (g := gb398) (o := .cells #[.int .i64 t393, .int .i64 t394, .int .i64 t395, .int .i64 t396] 23 (0, 0)) bk_ hb); have n3_ := Aside0.mk (blk_below (g := gb404) (o := .cells #[.int .i64 t399, .int .i64 t400, .int .i64 t401, .int .i64 t402] 23 (0, 0)) bk_ hb); have n4_ := Aside0.mk (below_step bw_ hb); clear BK305; clear BK306; clear BK398; clear BK404; clear HB; have BK305 := n0_; have BK306 := n1_; have BK398 := n2_; have BK404 := n3_; have HB := n4_; clear n0_ n1_ n2_ n3_ n4_; (try clear hb); (try clear hb2); (try clear hk); (try clear hi)) | ((with_reducible refine gate_callee (f := 26) rfl ?_); refine goesL_ (some 586) rfl rfl Tryd.func26 (by kernel_rfl) rfl #[.string t405] rfl (by (try simp only [List.map_toArray, List.map_cons, List.map_nil]); first | done | rfl | (simp only [List.length_drop, List.length_take]; rfl)) ?_; (with_reducible refine (impl_ParseChase.calls kj122 t405 t416 t417 t418 t419 true _ A198.out).mono ?_); rintro e w222 ⟨rfl, hb⟩; refine ⟨_, rfl, ?_⟩; have n0_ := Aside0.mk (blk_below (g := gb305) (o := .cells #[.int .i64 a0_0, .int .i64 a0_1, .int .i64 a0_2, .int .i64 a0_3] 23 (0, 0)) bk_ hb); have n1_ := Aside0.mk (blk_below (g := gb306) (o := .cells #[.int .i64 a2_0, .int .i64 a2_1, .int .i64 a2_2, .int .i64 a2_3] 23 (0, 0)) bk_ hb); have n2_ := Aside0.mk (blk_below (g := gb398) (o := .cells #[.int .i64 t393, .int .i64 t394, .int .i64 t395, .int .i64 t396] 23 (0, 0)) bk_ hb); have n3_ := Aside0.mk (blk_below (g := gb404) (o := .cells #[.int .i64 t399, .int .i64 t400, .int .i64 t401, .int .i64 t402] 23 (0, 0)) bk_ hb); have n4_ := Aside0.mk (below_step bw_ hb); clear BK305; clear BK306; clear BK398; clear BK404; clear HB; have BK305 := n0_; have BK306 := n1_; have BK398 := n2_; have BK404 := n3_; have HB := n4_; clear n0_ n1_ n2_ n3_ n4_; (try clear hb); (try clear hb2); (try clear hk); (try clear hi)) | ((with_reducible refine gate_dst (N := 76) rfl ?_); refine box_event ?hg (N := 76) ?hd (cs := #[.int .i64 0, .int .i64 0, .int .i64 0, .int .i64 0]) (t := 23) ?hr ?_; (case hd => rfl); (case hg => rfl); (case hr => first | (go_simp; done) | (go_simp; rfl)); intro gb421 hg w223 hbox hb; have n0_ := Aside0.mk (blk_below (g := gb305) (o := .cells #[.int .i64 a0_0, .int .i64 a0_1, .int .i64 a0_2, .int .i64 a0_3] 23 (0, 0)) bk_ hb); have n1_ := Aside0.mk (blk_below (g := gb306) (o := .cells #[.int .i64 a2_0, .int .i64 a2_1, .int .i64 a2_2, .int .i64 a2_3] 23 (0, 0)) bk_ hb); have n2_ := Aside0.mk (blk_below (g := gb398) (o := .cells #[.int .i64 t393, .int .i64 t394, .int .i64 t395, .int .i64 t396] 23 (0, 0)) bk_ hb); have n3_ := Aside0.mk (blk_below (g := gb404) (o := .cells #[.int .i64 t399, .int .i64 t400, .int .i64 t401, .int .i64 t402] 23 (0, 0)) bk_ hb); have n4_ := Aside0.mk (below_step bw_ hb); have n5_ := Aside0.mk (hbox); have n6_ := Aside0.mk ((by rw [hg]; exact (below_size bw_) : w.heap.size ≤ gb421)); have n7_ := Aside0.mk ((by rw [hg]; exact (below_size bw_) : w.heap.size ≤ gb421)); have n8_ := Aside0.mk ((by rw [hg]; exact Nat.ne_of_lt (blk_lt (g := gb305) (o := .cells #[.int .i64 a0_0, .int .i64 a0_1, .int .i64 a0_2, .int .i64 a0_3] 23 (0, 0)) bk_) : gb305 ≠ gb421)); have n9_ := Aside0.mk ((by rw [hg]; exact Nat.ne_of_gt (blk_lt (g := gb305) (o := .cells #[.int .i64 a0_0, .int .i64 a0_1, .int .i64 a0_2, .int .i64 a0_3] 23 (0, 0)) bk_) : gb421 ≠ gb305)); have n10_ := Aside0.mk ((by rw [hg]; exact Nat.ne_of_lt (blk_lt (g := gb306) (o := .cells #[.int .i64 a2_0, .int .i64 a2_1, .int .i64 a2_2, .int .i64 a2_3] 23 (0, 0)) bk_) : gb306 ≠ gb421)); have n11_ := Aside0.mk ((by rw [hg]; exact Nat.ne_of_gt (blk_lt (g := gb306) (o := .cells #[.int .i64 a2_0, .int .i64 a2_1, .int .i64 a2_2, .int .i64 a2_3] 23 (0, 0)) bk_) : gb421 ≠ gb306)); have n12_ := Aside0.mk ((by rw [hg]; exact Nat.ne_of_lt (blk_lt (g := gb398) (o := .cells #[.int .i64 t393, .int .i64 t394, .int .i64 t395, .int .i64 t396] 23 (0, 0)) bk_) : gb398 ≠ gb421)); have n13_ := Aside0.mk ((by rw [hg]; exact Nat.ne_of_gt (blk_lt (g := gb398) (o := .cells #[.int .i64 t393, .int .i64 t394, .int .i64 t395, .int .i64 t396] 23 (0, 0)) bk_) : gb421 ≠ gb398)); have n14_ := Aside0.mk ((by rw [hg]; exact Nat.ne_of_lt (blk_lt (g := gb404) (o := .cells #[.int .i64 t399, .int .i64 t400, .int .i64 t401, .int .i64 t402] 23 (0, 0)) bk_) : gb404 ≠ gb421)); have n15_ := Aside0.mk ((by rw [hg]; exact Nat.ne_of_gt (blk_lt (g := gb404) (o := .cells #[.int .i64 t399, .int .i64 t400, .int .i64 t401, .int .i64 t402] 23 (0, 0)) bk_) : gb421 ≠ gb404)); clear BK305; clear BK306; clear BK398; clear BK404; clear HB; have BK305 := n0_; have BK306 := n1_; have BK398 := n2_; have BK404 := n3_; have HB := n4_; have BK421 := n5_; have GW421 := n6_; have GE421 := n7_; have NB305_421 := n8_; have NB421_305 := n9_; have NB306_421 := n10_; have NB421_306 := n11_; have NB398_421 := n12_; have NB421_398 := n13_; have NB404_421 := n14_; have NB421_404 := n15_; clear n0_ n1_ n2_ n3_ n4_ n5_ n6_ n7_ n8_ n9_ n10_ n11_ n12_ n13_ n14_ n15_; clear hb hbox hg; have hnb224 := NB421_305.out; have hnc224 := NB305_421.out; have hnb225 := NB421_306.out; have hnc225 := NB306_421.out; have hnb226 := NB421_398.out; have hnc226 := NB398_421.out; have hnb227 := NB421_404.out; have hnc227 := NB404_421.out; have hcz228_0 : w223.cell? ⟨gb421, 0, none⟩ = some (.int .i64 0) := (blk_cell BK421.out 0).trans rfl; have hcz228_1 : w223.cell? ⟨gb421, 1, none⟩ = some (.int .i64 0) := (blk_cell BK421.out 1).trans rfl; have hcz228_2 : w223.cell? ⟨gb421, 2, none⟩ = some (.int .i64 0) := (blk_cell BK421.out 2).trans rfl; have hcz228_3 : w223.cell? ⟨gb421, 3, none⟩ = some (.int .i64 0) := (blk_cell BK421.out 3).trans rfl; have hfz228_0 := blk_frozen BK421.out 0; have hfz228_1 := blk_frozen BK421.out 1; have hfz228_2 := blk_frozen BK421.out 2; have hfz228_3 := blk_frozen BK421.out 3; have hnb229 := NB398_305.out; have hnc229 := NB305_398.out; have hnb230 := NB398_404.out; have hnc230 := NB404_398.out; have hcz231_0 : w223.cell? ⟨gb398, 0, none⟩ = some (.int .i64 t393) := (blk_cell BK398.out 0).trans rfl; have hcz231_1 : w223.cell? ⟨gb398, 1, none⟩ = some (.int .i64 t394) := (blk_cell BK398.out 1).trans rfl; have hcz231_2 : w223.cell? ⟨gb398, 2, none⟩ = some (.int .i64 t395) := (blk_cell BK398.out 2).trans rfl; have hcz231_3 : w223.cell? ⟨gb398, 3, none⟩ = some (.int .i64 t396) := (blk_cell BK398.out 3).trans rfl; have hfz231_0 := blk_frozen BK398.out 0; have hfz231_1 := blk_frozen BK398.out 1; have hfz231_2 := blk_frozen BK398.out 2; have hfz231_3 := blk_frozen BK398.out 3) | ((with_reducible refine gate_callee (f := 22) rfl ?_); refine goesL_ (some 591) rfl rfl Tryd.func22 (by kernel_rfl) rfl #[.agg #[.int .i64 t393, .int .i64 t394, .int .i64 t395, .int .i64 t396]] rfl (by (try simp only [List.map_toArray, List.map_cons, List.map_nil]); first | done | rfl | (simp only [List.length_drop, List.length_take]; rfl)) ?_; (with_reducible refine (impl_TurnChase.calls t393 t394 t395 t396 t422 t423 t424 t425 true _ A199.out).mono ?_); rintro e w232 ⟨rfl, hb⟩; refine ⟨_, rfl, ?_⟩; have n0_ := Aside0.mk (blk_below (g := gb305) (o := .cells #[.int .i64 a0_0, .int .i64 a0_1, .int .i64 a0_2, .int .i64 a0_3] 23 (0, 0)) (by (with_reducible repeat (first | refine blk_drewN ?_ _ | refine blk_drew ?_ | refine blk_alloc ?_ _)); refine blk_far ?_ NB305_421.out _; (with_reducible repeat (first | refine blk_drewN ?_ _ | refine blk_drew ?_ | refine blk_alloc ?_ _)); refine blk_far ?_ NB305_421.out _; (with_reducible repeat (first | refine blk_drewN ?_ _ | refine blk_drew ?_ | refine blk_alloc ?_ _)); refine blk_far ?_ NB305_421.out _; (with_reducible repeat (first | refine blk_drewN ?_ _ | refine blk_drew ?_ | refine blk_alloc ?_ _)); refine blk_far ?_ NB305_421.out _; (with_reducible repeat (first | refine blk_drewN ?_ _ | refine blk_drew ?_ | refine blk_alloc ?_ _)); exact BK305.out) hb); have n1_ := Aside0.mk (blk_below (g := gb306) (o := .cells #[.int .i64 a2_0, .int .i64 a2_1, .int .i64 a2_2, .int .i64 a2_3] 23 (0, 0)) (by (with_reducible repeat (first | refine blk_drewN ?_ _ | refine blk_drew ?_ | refine blk_alloc ?_ _)); refine blk_far ?_ NB306_421.out _; (with_reducible repeat (first | refine blk_drewN ?_ _ | refine blk_drew ?_ | refine blk_alloc ?_ _)); refine blk_far ?_ NB306_421.out _; (with_reducible repeat (first | refine blk_drewN ?_ _ | refine blk_drew ?_ | refine blk_alloc ?_ _)); refine blk_far ?_ NB306_421.out _; (with_reducible repeat (first | refine blk_drewN ?_ _ | refine blk_drew ?_ | refine blk_alloc ?_ _)); refine blk_far ?_ NB306_421.out _; (with_reducible repeat (first | refine blk_drewN ?_ _ | refine blk_drew ?_ | refine blk_alloc ?_ _)); exact BK306.out) hb); have n2_ := Aside0.mk (blk_below (g := gb398) (o := .cells #[.int .i64 t393, .int .i64 t394, .int .i64 t395, .int .i64 t396] 23 (0, 0)) (by (with_reducible repeat (first | refine blk_drewN ?_ _ | refine blk_drew ?_ | refine blk_alloc ?_ _)); refine blk_far ?_ NB398_421.out _; (with_reducible repeat (first | refine blk_drewN ?_ _ | refine blk_drew ?_ | refine blk_alloc ?_ _)); refine blk_far ?_ NB398_421.out _; (with_reducible repeat (first | refine blk_drewN ?_ _ | refine blk_drew ?_ | refine blk_alloc ?_ _)); refine blk_far ?_ NB398_421.out _; (with_reducible repeat (first | refine blk_drewN ?_ _ | refine blk_drew ?_ | refine blk_alloc ?_ _)); refine blk_far ?_ NB398_421.out _; (with_reducible repeat (first | refine blk_drewN ?_ _ | refine blk_drew ?_ | refine blk_alloc ?_ _)); exact BK398.out) hb); have n3_ := Aside0.mk (blk_below (g := gb404) (o := .cells #[.int .i64 t399, .int .i64 t400, .int .i64 t401, .int .i64 t402] 23 (0, 0)) (by (with_reducible repeat (first | refine blk_drewN ?_ _ | refine blk_drew ?_ | refine blk_alloc ?_ _)); refine blk_far ?_ NB404_421.out _; (with_reducible repeat (first | refine blk_drewN ?_ _ | refine blk_drew ?_ | refine blk_alloc ?_ _)); refine blk_far ?_ NB404_421.out _; (with_reducible repeat (first | refine blk_drewN ?_ _ | refine blk_drew ?_ | refine blk_alloc ?_ _)); refine blk_far ?_ NB404_421.out _; (with_reducible repeat (first | refine blk_drewN ?_ _ | refine blk_drew ?_ | refine blk_alloc ?_ _)); refine blk_far ?_ NB404_421.out _; (with_reducible repeat (first | refine blk_drewN ?_ _ | refine blk_drew ?_ | refine blk_alloc ?_ _)); exact BK404.out) hb); have n4_ := Aside0.mk (blk_below (g := gb421) (o := .cells #[.int .i64 t416, .int .i64 t417, .int .i64 t418, .int .i64 t419] 23 (0, 0)) (by (with_reducible repeat (first | refine blk_drewN ?_ _ | refine blk_drew ?_ | refine blk_alloc ?_ _)); refine blk_put (cs := #[.int .i64 t416, .int .i64 t417, .int .i64 t418, .int .i64 0]) ?_ 3 _ rfl; (with_reducible repeat (first | refine blk_drewN ?_ _ | refine blk_drew ?_ | refine blk_alloc ?_ _)); refine blk_put (cs := #[.int .i64 t416, .int .i64 t417, .int .i64 0, .int .i64 0]) ?_ 2 _ rfl; (with_reducible repeat (first | refine blk_drewN ?_ _ | refine blk_drew ?_ | refine blk_alloc ?_ _)); refine blk_put (cs := #[.int .i64 t416, .int .i64 0, .int .i64 0, .int .i64 0]) ?_ 1 _ rfl; (with_reducible repeat (first | refine blk_drewN ?_ _ | refine blk_drew ?_ | refine blk_alloc ?_ _)); refine blk_put (cs := #[.int .i64 0, .int .i64 0, .int .i64 0, .int .i64 0]) ?_ 0 _ rfl; (with_reducible repeat (first | refine blk_drewN ?_ _ | refine blk_drew ?_ | refine blk_alloc ?_ _)); exact BK421.out) hb); have n5_ := Aside0.mk (below_step bw_ hb); clear BK305; clear BK306; clear BK398; clear BK404; clear BK421; clear HB; have BK305 := n0_; have BK306 := n1_; have BK398 := n2_; have BK404 := n3_; have BK421 := n4_; have HB := n5_; clear n0_ n1_ n2_ n3_ n4_ n5_; (try clear hb); (try clear hb2); (try clear hk); (try clear hi)) | ((with_reducible refine gate_dst (N := 78) rfl ?_); refine box_event ?hg (N := 78) ?hd (cs := #[.int .i64 0, .int .i64 0, .int .i64 0, .int .i64 0]) (t := 23) ?hr ?_; (case hd => rfl); (case hg => rfl); (case hr => first | (go_simp; done) | (go_simp; rfl)); intro gb427 hg w233 hbox hb; have n0_ := Aside0.mk (blk_below (g := gb305) (o := .cells #[.int .i64 a0_0, .int .i64 a0_1, .int .i64 a0_2, .int .i64 a0_3] 23 (0, 0)) bk_ hb); have n1_ := Aside0.mk (blk_below (g := gb306) (o := .cells #[.int .i64 a2_0, .int .i64 a2_1, .int .i64 a2_2, .int .i64 a2_3] 23 (0, 0)) bk_ hb); have n2_ := Aside0.mk (blk_below (g := gb398) (o := .cells #[.int .i64 t393, .int .i64 t394, .int .i64 t395, .int .i64 t396] 23 (0, 0)) bk_ hb); have n3_ := Aside0.mk (blk_below (g := gb404) (o := .cells #[.int .i64 t399, .int .i64 t400, .int .i64 t401, .int .i64 t402] 23 (0, 0)) bk_ hb); have n4_ := Aside0.mk (blk_below (g := gb421) (o := .cells #[.int .i64 t416, .int .i64 t417, .int .i64 t418, .int .i64 t419] 23 (0, 0)) bk_ hb); have n5_ := Aside0.mk (below_step bw_ hb); have n6_ := Aside0.mk (hbox); have n7_ := Aside0.mk ((by rw [hg]; exact (below_size bw_) : w.heap.size ≤ gb427)); have n8_ := Aside0.mk ((by rw [hg]; exact (below_size bw_) : w.heap.size ≤ gb427)); have n9_ := Aside0.mk ((by rw [hg]; exact Nat.ne_of_lt (blk_lt (g := gb305) (o := .cells #[.int .i64 a0_0, .int .i64 a0_1, .int .i64 a0_2, .int .i64 a0_3] 23 (0, 0)) bk_) : gb305 ≠ gb427)); have n10_ := Aside0.mk ((by rw [hg]; exact Nat.ne_of_gt (blk_lt (g := gb305) (o := .cells #[.int .i64 a0_0, .int .i64 a0_1, .int .i64 a0_2, .int .i64 a0_3] 23 (0, 0)) bk_) : gb427 ≠ gb305)); have n11_ := Aside0.mk ((by rw [hg]; exact Nat.ne_of_lt (blk_lt (g := gb306) (o := .cells #[.int .i64 a2_0, .int .i64 a2_1, .int .i64 a2_2, .int .i64 a2_3] 23 (0, 0)) bk_) : gb306 ≠ gb427)); have n12_ := Aside0.mk ((by rw [hg]; exact Nat.ne_of_gt (blk_lt (g := gb306) (o := .cells #[.int .i64 a2_0, .int .i64 a2_1, .int .i64 a2_2, .int .i64 a2_3] 23 (0, 0)) bk_) : gb427 ≠ gb306)); have n13_ := Aside0.mk ((by rw [hg]; exact Nat.ne_of_lt (blk_lt (g := gb398) (o := .cells #[.int .i64 t393, .int .i64 t394, .int .i64 t395, .int .i64 t396] 23 (0, 0)) bk_) : gb398 ≠ gb427)); have n14_ := Aside0.mk ((by rw [hg]; exact Nat.ne_of_gt (blk_lt (g := gb398) (o := .cells #[.int .i64 t393, .int .i64 t394, .int .i64 t395, .int .i64 t396] 23 (0, 0)) bk_) : gb427 ≠ gb398)); have n15_ := Aside0.mk ((by rw [hg]; exact Nat.ne_of_lt (blk_lt (g := gb404) (o := .cells #[.int .i64 t399, .int .i64 t400, .int .i64 t401, .int .i64 t402] 23 (0, 0)) bk_) : gb404 ≠ gb427)); have n16_ := Aside0.mk ((by rw [hg]; exact Nat.ne_of_gt (blk_lt (g := gb404) (o := .cells #[.int .i64 t399, .int .i64 t400, .int .i64 t401, .int .i64 t402] 23 (0, 0)) bk_) : gb427 ≠ gb404)); have n17_ := Aside0.mk ((by rw [hg]; exact Nat.ne_of_lt (blk_lt (g := gb421) (o := .cells #[.int .i64 t416, .int .i64 t417, .int .i64 t418, .int .i64 t419] 23 (0, 0)) bk_) : gb421 ≠ gb427)); have n18_ := Aside0.mk ((by rw [hg]; exact Nat.ne_of_gt (blk_lt (g := gb421) (o := .cells #[.int .i64 t416, .int .i64 t417, .int .i64 t418, .int .i64 t419] 23 (0, 0)) bk_) : gb427 ≠ gb421)); clear BK305; clear BK306; clear BK398; clear BK404; clear BK421; clear HB; have BK305 := n0_; have BK306 := n1_; have BK398 := n2_; have BK404 := n3_; have BK421 := n4_; have HB := n5_; have BK427 := n6_; have GW427 := n7_; have GE427 := n8_; have NB305_427 := n9_; have NB427_305 := n10_; have NB306_427 := n11_; have NB427_306 := n12_; have NB398_427 := n13_; have NB427_398 := n14_; have NB404_427 := n15_; have NB427_404 := n16_; have NB421_427 := n17_; have NB427_421 := n18_; clear n0_ n1_ n2_ n3_ n4_ n5_ n6_ n7_ n8_ n9_ n10_ n11_ n12_ n13_ n14_ n15_ n16_ n17_ n18_; clear hb hbox hg; have hnb234 := NB427_305.out; have hnc234 := NB305_427.out; have hnb235 := NB427_306.out; have hnc235 := NB306_427.out; have hnb236 := NB427_398.out; have hnc236 := NB398_427.out; have hnb237 := NB427_404.out; have hnc237 := NB404_427.out; have hnb238 := NB427_421.out; have hnc238 := NB421_427.out; have hcz239_0 : w233.cell? ⟨gb427, 0, none⟩ = some (.int .i64 0) := (blk_cell BK427.out 0).trans rfl; have hcz239_1 : w233.cell? ⟨gb427, 1, none⟩ = some (.int .i64 0) := (blk_cell BK427.out 1).trans rfl; have hcz239_2 : w233.cell? ⟨gb427, 2, none⟩ = some (.int .i64 0) := (blk_cell BK427.out 2).trans rfl; have hcz239_3 : w233.cell? ⟨gb427, 3, none⟩ = some (.int .i64 0) := (blk_cell BK427.out 3).trans rfl; have hfz239_0 := blk_frozen BK427.out 0; have hfz239_1 := blk_frozen BK427.out 1; have hfz239_2 := blk_frozen BK427.out 2; have hfz239_3 := blk_frozen BK427.out 3) | ((with_reducible refine gate_callee (f := 13) rfl ?_); refine goesL_ (some 596) rfl rfl Tryd.func13 (by kernel_rfl) rfl #[.int .i64 t361, .int .i64 t362] rfl (by (try simp only [List.map_toArray, List.map_cons, List.map_nil]); first | done | rfl | (simp only [List.length_drop, List.length_take]; rfl)) ?_; (with_reducible refine (laws_yLow.calls kj122 t361 t362 true _ A200.out).mono ?_); rintro e w' ⟨rfl, ⟨nd, rfl⟩⟩; refine ⟨_, rfl, ?_⟩) | (go_at_call 13; (with_reducible refine (laws_yLow.calls kj122 t361 t362 true _ A200.out).mono ?_); rintro e w' ⟨rfl, ⟨nd, rfl⟩⟩) | (go_at_call 13; (with_reducible refine (laws_yLow.calls kj122 t363 t364 true _ A202.out).mono ?_); rintro e w' ⟨rfl, ⟨nd, rfl⟩⟩; have hcz240_0 : w233.cell? ⟨gb306, 0, none⟩ = some (.int .i64 a2_0) := (blk_cell BK306.out 0).trans rfl; have hcz240_1 : w233.cell? ⟨gb306, 1, none⟩ = some (.int .i64 a2_1) := (blk_cell BK306.out 1).trans rfl; have hcz240_2 : w233.cell? ⟨gb306, 2, none⟩ = some (.int .i64 a2_2) := (blk_cell BK306.out 2).trans rfl; have hcz240_3 : w233.cell? ⟨gb306, 3, none⟩ = some (.int .i64 a2_3) := (blk_cell BK306.out 3).trans rfl; have hfz240_0 := blk_frozen BK306.out 0; have hfz240_1 := blk_frozen BK306.out 1; have hfz240_2 := blk_frozen BK306.out 2; have hfz240_3 := blk_frozen BK306.out 3; have hcz241_0 : w233.cell? ⟨gb421, 0, none⟩ = some (.int .i64 t416) := (blk_cell BK421.out 0).trans rfl; have hcz241_1 : w233.cell? ⟨gb421, 1, none⟩ = some (.int .i64 t417) := (blk_cell BK421.out 1).trans rfl; have hcz241_2 : w233.cell? ⟨gb421, 2, none⟩ = some (.int .i64 t418) := (blk_cell BK421.out 2).trans rfl; have hcz241_3 : w233.cell? ⟨gb421, 3, none⟩ = some (.int .i64 t419) := (blk_cell BK421.out 3).trans rfl; have hfz241_0 := blk_frozen BK421.out 0; have hfz241_1 := blk_frozen BK421.out 1; have hfz241_2 := blk_frozen BK421.out 2; have hfz241_3 := blk_frozen BK421.out 3))
                       go_ret
                       exact ⟨by first | rfl | (simp [errW_none, errW_some] <;> rfl) | (simp [*, errW_none, errW_some] <;> rfl), by repeat (first | (with_reducible first | exact HB.out | apply below_alloc | apply pw_below_drewN | apply below_drew1 | refine below_set ?_ GE305.out | refine below_set ?_ GE306.out | refine below_set ?_ GE398.out | refine below_set ?_ GE404.out | refine below_set ?_ GE421.out | refine below_set ?_ GE427.out) | exact HB.out)⟩
                      ·
                       rw [if_neg c214] at H
                       have c214b0 : ((wrap64 ((wrap64 (t383 * t386)) + (wrap64 (t385 * t384)))) == (wrap64 ((wrap64 (a2_0 * t384)) * t386))) = false := beq_eq_false_iff_ne.mpr c214
                       have c214b1 : ((wrap64 ((wrap64 (t383 * t386)) + (wrap64 (t385 * t384)))) != (wrap64 ((wrap64 (a2_0 * t384)) * t386))) = true := bne_iff_ne.mpr c214
                       exact absurd ((Option.some.inj H).trans HRT.out) (by decide)
                     ·
                      rw [if_neg c213] at H
                      have c213b0 : ((wrap64 (t371 * (wrap64 (a2_1 + a2_2)))) == (wrap64 (t372 * a2_0))) = false := beq_eq_false_iff_ne.mpr c213
                      have c213b1 : ((wrap64 (t371 * (wrap64 (a2_1 + a2_2)))) != (wrap64 (t372 * a2_0))) = true := bne_iff_ne.mpr c213
                      exact absurd ((Option.some.inj H).trans HRT.out) (by decide)
                    ·
                     rw [if_neg c212] at H
                     have c212b0 : ((wrap64 (t377 * t372)) == (wrap64 ((wrap64 (t378 * t371)) * a2_3))) = false := beq_eq_false_iff_ne.mpr c212
                     have c212b1 : ((wrap64 (t377 * t372)) != (wrap64 ((wrap64 (t378 * t371)) * a2_3))) = true := bne_iff_ne.mpr c212
                     exact absurd ((Option.some.inj H).trans HRT.out) (by decide)
                  ·
                   replace c210 := Bool.eq_false_iff.mpr c210
                   subst c210
                   rw [if_neg (show ¬ (false = true) by decide)] at H
                   exact absurd ((Option.some.inj H).trans HRT.out) (by decide)
                ·
                 replace c208 := Bool.eq_false_iff.mpr c208
                 subst c208
                 rw [if_neg (show ¬ (false = true) by decide)] at H
                 exact absurd ((Option.some.inj H).trans HRT.out) (by decide)
               ·
                rw [if_neg c207] at H
                have c207b0 : ((wrap64 ((wrap64 (t413 * t364)) * t411)) == (wrap64 ((wrap64 (t414 * t410)) * t363))) = false := beq_eq_false_iff_ne.mpr c207
                have c207b1 : ((wrap64 ((wrap64 (t413 * t364)) * t411)) != (wrap64 ((wrap64 (t414 * t410)) * t363))) = true := bne_iff_ne.mpr c207
                exact absurd ((Option.some.inj H).trans HRT.out) (by decide)
              ·
               replace c206 := Bool.eq_false_iff.mpr c206
               subst c206
               rw [if_neg (show ¬ (false = true) by decide)] at H
               exact absurd ((Option.some.inj H).trans HRT.out) (by decide)
             ·
              rw [if_neg c205] at H
              have c205b0 : ((wrap64 (t410 * t362)) == (wrap64 ((wrap64 (t411 * t361)) * a2_0))) = false := beq_eq_false_iff_ne.mpr c205
              have c205b1 : ((wrap64 (t410 * t362)) != (wrap64 ((wrap64 (t411 * t361)) * a2_0))) = true := bne_iff_ne.mpr c205
              exact absurd ((Option.some.inj H).trans HRT.out) (by decide)
            ·
             replace c204 := Bool.eq_false_iff.mpr c204
             subst c204
             rw [if_neg (show ¬ (false = true) by decide)] at H
             exact absurd ((Option.some.inj H).trans HRT.out) (by decide)
           ·
            replace c203 := Bool.eq_false_iff.mpr c203
            subst c203
            rw [if_neg (show ¬ (false = true) by decide)] at H
            exact absurd ((Option.some.inj H).trans HRT.out) (by decide)
          ·
           replace c201 := Bool.eq_false_iff.mpr c201
           subst c201
           rw [if_neg (show ¬ (false = true) by decide)] at H
           exact absurd ((Option.some.inj H).trans HRT.out) (by decide)
         ·
          replace c195 := Bool.eq_false_iff.mpr c195
          subst c195
          rw [if_neg (show ¬ (false = true) by decide)] at H
          obtain rfl := Option.some.inj H
          go_wp2
          go_ret
          exact ⟨by first | rfl | (simp [errW_none, errW_some] <;> rfl) | (simp [*, errW_none, errW_some] <;> rfl), by repeat (first | (with_reducible first | exact HB.out | apply below_alloc | apply pw_below_drewN | apply below_drew1 | refine below_set ?_ GE305.out | refine below_set ?_ GE306.out | refine below_set ?_ GE398.out | refine below_set ?_ GE404.out) | exact HB.out)⟩

end Go.Proofs.YtajlcomankjcjaaDoor.PFnDogsTurnOfAll
