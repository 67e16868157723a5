-- Laid by a program of this session's (wip/gen/printp.sh): the functions that the law reaches, each with its walk.
import Derived.Test.YtajlcomankjcjabGreatDoorPFnDogsTurnx0
import Derived.Test.YtajlcomankjcjabGreatDoorPFnDogsTurnx1
import Derived.Test.YtajlcomankjcjabGreatDoorPFnDogsTurnx2
import Derived.Test.YtajlcomankjcjabGreatDoorPFnDogsTurnx3
import Derived.Test.YtajlcomankjcjabGreatDoorPFnDogsTurnx5
import Derived.Test.YtajlcomankjcjabGreatDoorPFnDogsTurnx6
import Derived.Test.YtajlcomankjcjabGreatDoorPFnDogsTurnx7
import Derived.Test.YtajlcomankjcjabGreatDoorPFnDogsTurnx8
import Derived.Test.YtajlcomankjcjabGreatDoorPFnDogsTurnx9
import Derived.Test.YtajlcomankjcjabGreatDoorPFnDogsTurnx10
import Derived.Test.YtajlcomankjcjabGreatDoorPFnDogsTurnx11
import Derived.Test.YtajlcomankjcjabGreatDoorPFnDogsTurnx12
namespace Go.Proofs.YtajlcomankjcjabGreatDoor.PFnDogsTurn
open Go.RowKit Go.Proofs.YtajlcomankjcjabGreatDoorW.PrintWords Go.Proofs.YtajlcomankjcjabGreatDoorW.PrintLast Go.Proofs.YtajlcomankjcjabGreatDoorW.PrintMore
attribute [local go_sem] max2_int min2_int max_two min_two max_three min_three max_four min_four   -- for this text's walks alone
set_option linter.unusedVariables false
set_option linter.unusedSimpArgs false

attribute [local go_sem high] eqA25
set_option maxHeartbeats 80000000 in
set_option maxRecDepth 100000 in
theorem laws_FnDogsTurn.case6 (k : Nat) (A0 : Option Addr) (c0 : Nat) (l0 : List Int) (A1 : Option Addr) (c1 : Nat) (l1 : List Int) (r : Bool) (w : World) : (laws_FnDogsTurn.part k A0 c0 l0 A1 c1 l1 r w).2.2.2.2.2.1 := by
        intro hL0 HRT hu25 HR0 HC0 HR1 HC1 A3 t392 t393 t394 t395 t396 A5 t398 t401 A6 t402 t405 A7 t406 t407 t408 A8 t409 t410 t411 A9 t412 t413 t414 A10 t415 t416 t417 A11 z1_ nd z2_ w13 gb397 w14 GW397 GE397 hcz15_0 hcz15_1 hcz15_2 hcz15_3 hfz15_0 hfz15_1 hfz15_2 hfz15_3 w16 v399 hcz17_0 hcz17_1 hcz17_2 hcz17_3 hfz17_0 hfz17_1 hfz17_2 hfz17_3 w18 v403 hcz19_0 hcz19_1 hcz19_2 hcz19_3 hfz19_0 hfz19_1 hfz19_2 hfz19_3 w20 hcz21_0 hcz21_1 hcz21_2 hcz21_3 hfz21_0 hfz21_1 hfz21_2 hfz21_3 w22 hcz23_0 hcz23_1 hcz23_2 hcz23_3 hfz23_0 hfz23_1 hfz23_2 hfz23_3 w24 hcz25_0 hcz25_1 hcz25_2 hcz25_3 hfz25_0 hfz25_1 hfz25_2 hfz25_3 w26 HO400 HO404 z3_ z4_ z5_ u129 u130 u131 u132 u133 u134 u135 u136 u137 u138 u139 u140 u141 u142 u143 u144 u145 u146 u147 u148 u149 u150 u151 u152 u153 u154 u155 u156 u157 u158 u159 u160 u161 u162 u163 u164 u165 u166 u167 u168 u169 u170 u171 u172 u173 u174 u175 u176 u177 u178 u179 u180 u181 u182 u183 u184 u185 u186 u187 u188 u189 u190 u191 HO_7 z6_ z7_ kj11 HJ11 wc u4 u23 u24 u25 u26 u27 u28 u29 u194 u195 u196 u197 u198 u199 u200 u201 u202 u203 u204 u205 u206 u207 u208 u209 u210 u211 u212 u213 u214 u215 u216 u217 u218 u219 u220 u221 u222 u223 u224 u225 u226 u227 u228 u229 u230 u231 u232 u233 u234 u235 u236 u237 u238 u239 u240 u241 u242 u243 u244 u245 u246 u247 u248 u249 u250 u251 u252 u253 u254 u255 u256 u257 u258 u259 u260 u261 u262 u263 u264 u265 u266 u267 u268 u269 u270 u271 u272 u273 u274 u275 u276 u277 u278 u279 u280 u281 u282 u283 u284 u285 u286 u287 u288 u289 u290 u291 u292 u293 u294 u295 u296 u297 u298 u299 u300 u301 u302 u303 u304 u305 u306 u307 u308 u309 u310 u311 u312 u313 u314 u315 u316 u317 u318 u319 u320 u321 u322 u323 u324 u325 u326 u327 u328 u329 u330 u331 u332 u333 u334 u335 u336 u337 u338 u339 u340 u341 u342 u343 u344 u345 u346 u347 u348 u349 u350 u351 u352 u353 u354 u355 u356 u357 u358 u359 u360 u361 u362 u363 u364 u365 u366 u367 u368 u369 u370 u371 u372 u373 u374 kj54 HJ54 t452 t453 t454 t455 A111 t457 t458 t459 t460 t461 A112 t462 t463 t464 t465 t466 A113 t467 t468 t469 A114 t470 t471 t472 A115 t473 t474 t475 A116 t476 t477 t478 A117 t479 t480 t481 t482 t483 A118 t484 t485 t486 t487 t488 A119 t489 t490 t491 t492 t493 A120 t495 t496 t497 t498 t499 A121 t501 t502 A122 t503 t504 A123 HC124 w125 gb456 w126 GW456 GE456 NB397_456 NB456_397 hnb127 hnc127 hcz128_0 hcz128_1 hcz128_2 hcz128_3 hfz128_0 hfz128_1 hfz128_2 hfz128_3 w129 hcz130_0 hcz130_1 hcz130_2 hcz130_3 hfz130_0 hfz130_1 hfz130_2 hfz130_3 w131 hcz132_0 hcz132_1 hcz132_2 hcz132_3 hfz132_0 hfz132_1 hfz132_2 hfz132_3 w133 hcz134_0 hcz134_1 hcz134_2 hcz134_3 hfz134_0 hfz134_1 hfz134_2 hfz134_3 w135 hcz136_0 hcz136_1 hcz136_2 hcz136_3 hfz136_0 hfz136_1 hfz136_2 hfz136_3 w137 hcz138_0 hcz138_1 hcz138_2 hcz138_3 hfz138_0 hfz138_1 hfz138_2 hfz138_3 w139 hcz140_0 hcz140_1 hcz140_2 hcz140_3 hfz140_0 hfz140_1 hfz140_2 hfz140_3 w141 hcz142_0 hcz142_1 hcz142_2 hcz142_3 hfz142_0 hfz142_1 hfz142_2 hfz142_3 w143 hcz144_0 hcz144_1 hcz144_2 hcz144_3 hfz144_0 hfz144_1 hfz144_2 hfz144_3 w145 gb494 w146 GW494 GE494 NB397_494 NB494_397 NB456_494 NB494_456 hnb147 hnc147 hnb148 hnc148 hcz149_0 hcz149_1 hcz149_2 hcz149_3 hfz149_0 hfz149_1 hfz149_2 hfz149_3 hcz150_0 hcz150_1 hcz150_2 hcz150_3 hfz150_0 hfz150_1 hfz150_2 hfz150_3 w151 gb500 w152 GW500 GE500 NB397_500 NB500_397 NB456_500 NB500_456 NB494_500 NB500_494 hnb153 hnc153 hnb154 hnc154 hnb155 hnc155 hcz156_0 hcz156_1 hcz156_2 hcz156_3 hfz156_0 hfz156_1 hfz156_2 hfz156_3 hcz157_0 hcz157_1 hcz157_2 hcz157_3 hfz157_0 hfz157_1 hfz157_2 hfz157_3 w158 hcz159_0 hcz159_1 hcz159_2 hcz159_3 hfz159_0 hfz159_1 hfz159_2 hfz159_3 w160 BK397 BK456 BK494 BK500 HB z8_ z9_ z10_ z11_ z12_ z13_ z14_ z15_
        have H := HC124.out
        clear HC124
        by_cases c161 : (t461 != t466) = true
        ·
         rw [if_pos c161] at H
         have c161b0 : (t461 != t466) = true := c161
         (try (have c161b1 : decide (t461 = t466) = false := by simpa using c161))
         (try (have c161b2 : (t461 == t466) = false := by simpa using c161))
         (try (have c161b3 : ¬ (t461 = t466) := by simpa using c161))
         clear c161
         (first | rw [c161b0] | (simp only [i64_w, i32_w]; rw [c161b0]) | skip)
         exact absurd (H.trans (congrArg some HRT.out)) (by cases kj54 <;> simp [laws_FnDogsTurn.j6])
        ·
         rw [if_neg c161] at H
         have c161b0 : (t461 != t466) = false := by simpa using c161
         (try (have c161b1 : decide (t461 = t466) = true := by simpa using c161))
         (try (have c161b2 : (t461 == t466) = true := by simpa using c161))
         clear c161
         (first | rw [c161b0] | (simp only [i64_w, i32_w]; rw [c161b0]) | skip)
         by_cases c162 : t457 = t462
         ·
          rw [if_pos c162] at H
          have c162b0 : (t457 == t462) = true := beq_iff_eq.mpr c162
          have c162b1 : (t457 != t462) = false := bne_eq_false_iff_eq.mpr c162
          clear c162
          by_cases c163 : t458 = t463
          ·
           rw [if_pos c163] at H
           have c163b0 : (t458 == t463) = true := beq_iff_eq.mpr c163
           have c163b1 : (t458 != t463) = false := bne_eq_false_iff_eq.mpr c163
           clear c163
           by_cases c164 : t459 = t464
           ·
            rw [if_pos c164] at H
            have c164b0 : (t459 == t464) = true := beq_iff_eq.mpr c164
            have c164b1 : (t459 != t464) = false := bne_eq_false_iff_eq.mpr c164
            clear c164
            by_cases c165 : t460 = t465
            ·
             rw [if_pos c165] at H
             have c165b0 : (t460 == t465) = true := beq_iff_eq.mpr c165
             have c165b1 : (t460 != t465) = false := bne_eq_false_iff_eq.mpr c165
             clear c165
             by_cases c166 : (t469 != t472) = true
             ·
              rw [if_pos c166] at H
              have c166b0 : (t469 != t472) = true := c166
              (try (have c166b1 : decide (t469 = t472) = false := by simpa using c166))
              (try (have c166b2 : (t469 == t472) = false := by simpa using c166))
              (try (have c166b3 : ¬ (t469 = t472) := by simpa using c166))
              clear c166
              exact absurd (H.trans (congrArg some HRT.out)) (by cases kj54 <;> simp [laws_FnDogsTurn.j6])
             ·
              rw [if_neg c166] at H
              have c166b0 : (t469 != t472) = false := by simpa using c166
              (try (have c166b1 : decide (t469 = t472) = true := by simpa using c166))
              (try (have c166b2 : (t469 == t472) = true := by simpa using c166))
              clear c166
              by_cases c167 : t467 = t470
              ·
               rw [if_pos c167] at H
               have c167b0 : (t467 == t470) = true := beq_iff_eq.mpr c167
               have c167b1 : (t467 != t470) = false := bne_eq_false_iff_eq.mpr c167
               clear c167
               by_cases c168 : t468 = t471
               ·
                rw [if_pos c168] at H
                have c168b0 : (t468 == t471) = true := beq_iff_eq.mpr c168
                have c168b1 : (t468 != t471) = false := bne_eq_false_iff_eq.mpr c168
                clear c168
                by_cases c169 : (t475 != t478) = true
                ·
                 rw [if_pos c169] at H
                 have c169b0 : (t475 != t478) = true := c169
                 (try (have c169b1 : decide (t475 = t478) = false := by simpa using c169))
                 (try (have c169b2 : (t475 == t478) = false := by simpa using c169))
                 (try (have c169b3 : ¬ (t475 = t478) := by simpa using c169))
                 clear c169
                 exact absurd (H.trans (congrArg some HRT.out)) (by cases kj54 <;> simp [laws_FnDogsTurn.j6])
                ·
                 rw [if_neg c169] at H
                 have c169b0 : (t475 != t478) = false := by simpa using c169
                 (try (have c169b1 : decide (t475 = t478) = true := by simpa using c169))
                 (try (have c169b2 : (t475 == t478) = true := by simpa using c169))
                 clear c169
                 by_cases c170 : t473 = t476
                 ·
                  rw [if_pos c170] at H
                  have c170b0 : (t473 == t476) = true := beq_iff_eq.mpr c170
                  have c170b1 : (t473 != t476) = false := bne_eq_false_iff_eq.mpr c170
                  clear c170
                  by_cases c171 : t474 = t477
                  ·
                   rw [if_pos c171] at H
                   have c171b0 : (t474 == t477) = true := beq_iff_eq.mpr c171
                   have c171b1 : (t474 != t477) = false := bne_eq_false_iff_eq.mpr c171
                   clear c171
                   by_cases c172 : (t483 != t488) = true
                   ·
                    rw [if_pos c172] at H
                    have c172b0 : (t483 != t488) = true := c172
                    (try (have c172b1 : decide (t483 = t488) = false := by simpa using c172))
                    (try (have c172b2 : (t483 == t488) = false := by simpa using c172))
                    (try (have c172b3 : ¬ (t483 = t488) := by simpa using c172))
                    clear c172
                    exact absurd (H.trans (congrArg some HRT.out)) (by cases kj54 <;> simp [laws_FnDogsTurn.j6])
                   ·
                    rw [if_neg c172] at H
                    have c172b0 : (t483 != t488) = false := by simpa using c172
                    (try (have c172b1 : decide (t483 = t488) = true := by simpa using c172))
                    (try (have c172b2 : (t483 == t488) = true := by simpa using c172))
                    clear c172
                    by_cases c173 : t479 = t484
                    ·
                     rw [if_pos c173] at H
                     have c173b0 : (t479 == t484) = true := beq_iff_eq.mpr c173
                     have c173b1 : (t479 != t484) = false := bne_eq_false_iff_eq.mpr c173
                     clear c173
                     by_cases c174 : t480 = t485
                     ·
                      rw [if_pos c174] at H
                      have c174b0 : (t480 == t485) = true := beq_iff_eq.mpr c174
                      have c174b1 : (t480 != t485) = false := bne_eq_false_iff_eq.mpr c174
                      clear c174
                      by_cases c175 : t481 = t486
                      ·
                       rw [if_pos c175] at H
                       have c175b0 : (t481 == t486) = true := beq_iff_eq.mpr c175
                       have c175b1 : (t481 != t486) = false := bne_eq_false_iff_eq.mpr c175
                       clear c175
                       by_cases c176 : t482 = t487
                       ·
                        rw [if_pos c176] at H
                        have c176b0 : (t482 == t487) = true := beq_iff_eq.mpr c176
                        have c176b1 : (t482 != t487) = false := bne_eq_false_iff_eq.mpr c176
                        clear c176
                        by_cases c177 : (t493 != t499) = true
                        ·
                         rw [if_pos c177] at H
                         have c177b0 : (t493 != t499) = true := c177
                         (try (have c177b1 : decide (t493 = t499) = false := by simpa using c177))
                         (try (have c177b2 : (t493 == t499) = false := by simpa using c177))
                         (try (have c177b3 : ¬ (t493 = t499) := by simpa using c177))
                         clear c177
                         exact absurd (H.trans (congrArg some HRT.out)) (by cases kj54 <;> simp [laws_FnDogsTurn.j6])
                        ·
                         rw [if_neg c177] at H
                         have c177b0 : (t493 != t499) = false := by simpa using c177
                         (try (have c177b1 : decide (t493 = t499) = true := by simpa using c177))
                         (try (have c177b2 : (t493 == t499) = true := by simpa using c177))
                         clear c177
                         by_cases c178 : (!(t489 == t495) || (!(t490 == t496) || (!(t491 == t497) || (!(t492 == t498))))) = true
                         ·
                          rw [if_pos c178] at H
                          have c178b0 : (!(t489 == t495) || (!(t490 == t496) || (!(t491 == t497) || (!(t492 == t498))))) = true := c178
                          clear c178
                          exact absurd (H.trans (congrArg some HRT.out)) (by cases kj54 <;> simp [laws_FnDogsTurn.j6])
                         ·
                          rw [if_neg c178] at H
                          have c178b0 : (!(t489 == t495) || (!(t490 == t496) || (!(t491 == t497) || (!(t492 == t498))))) = false := by simpa using c178
                          clear c178
                          by_cases c179 : (t502 != t504) = true
                          ·
                           rw [if_pos c179] at H
                           have c179b0 : (t502 != t504) = true := c179
                           (try (have c179b1 : decide (t502 = t504) = false := by simpa using c179))
                           (try (have c179b2 : (t502 == t504) = false := by simpa using c179))
                           (try (have c179b3 : ¬ (t502 = t504) := by simpa using c179))
                           clear c179
                           exact absurd (H.trans (congrArg some HRT.out)) (by cases kj54 <;> simp [laws_FnDogsTurn.j6])
                          ·
                           rw [if_neg c179] at H
                           have c179b0 : (t502 != t504) = false := by simpa using c179
                           (try (have c179b1 : decide (t502 = t504) = true := by simpa using c179))
                           (try (have c179b2 : (t502 == t504) = true := by simpa using c179))
                           clear c179
                           by_cases c180 : t501.toList = t503.toList
                           ·
                            rw [if_pos c180] at H
                            have c180b0 : (t501.toList == t503.toList) = true := beq_iff_eq.mpr c180
                            have c180b1 : (t501.toList != t503.toList) = false := bne_eq_false_iff_eq.mpr c180
                            clear c180
                            replace H := Option.bind_eq_some_iff.mp H
                            obtain ⟨t505, A1810, H⟩ := H
                            (try dsimp only at H)
                            have A181 := Aside0.mk A1810
                            clear A1810
                            by_cases c182 : (t461 != t505) = true
                            ·
                             rw [if_pos c182] at H
                             have c182b0 : (t461 != t505) = true := c182
                             (try (have c182b1 : decide (t461 = t505) = false := by simpa using c182))
                             (try (have c182b2 : (t461 == t505) = false := by simpa using c182))
                             (try (have c182b3 : ¬ (t461 = t505) := by simpa using c182))
                             clear c182
                             exact absurd (H.trans (congrArg some HRT.out)) (by cases kj54 <;> simp [laws_FnDogsTurn.j6])
                            ·
                             rw [if_neg c182] at H
                             have c182b0 : (t461 != t505) = false := by simpa using c182
                             (try (have c182b1 : decide (t461 = t505) = true := by simpa using c182))
                             (try (have c182b2 : (t461 == t505) = true := by simpa using c182))
                             clear c182
                             by_cases c183 : (t469 != t461) = true
                             ·
                              rw [if_pos c183] at H
                              have c183b0 : (t469 != t461) = true := c183
                              (try (have c183b1 : decide (t469 = t461) = false := by simpa using c183))
                              (try (have c183b2 : (t469 == t461) = false := by simpa using c183))
                              (try (have c183b3 : ¬ (t469 = t461) := by simpa using c183))
                              clear c183
                              exact absurd (H.trans (congrArg some HRT.out)) (by cases kj54 <;> simp [laws_FnDogsTurn.j6])
                             ·
                              rw [if_neg c183] at H
                              have c183b0 : (t469 != t461) = false := by simpa using c183
                              (try (have c183b1 : decide (t469 = t461) = true := by simpa using c183))
                              (try (have c183b2 : (t469 == t461) = true := by simpa using c183))
                              clear c183
                              by_cases c184 : (t475 != t461) = true
                              ·
                               rw [if_pos c184] at H
                               have c184b0 : (t475 != t461) = true := c184
                               (try (have c184b1 : decide (t475 = t461) = false := by simpa using c184))
                               (try (have c184b2 : (t475 == t461) = false := by simpa using c184))
                               (try (have c184b3 : ¬ (t475 = t461) := by simpa using c184))
                               clear c184
                               exact absurd (H.trans (congrArg some HRT.out)) (by cases kj54 <;> simp [laws_FnDogsTurn.j6])
                              ·
                               rw [if_neg c184] at H
                               have c184b0 : (t475 != t461) = false := by simpa using c184
                               (try (have c184b1 : decide (t475 = t461) = true := by simpa using c184))
                               (try (have c184b2 : (t475 == t461) = true := by simpa using c184))
                               clear c184
                               by_cases c185 : (t483 != t461) = true
                               ·
                                rw [if_pos c185] at H
                                have c185b0 : (t483 != t461) = true := c185
                                (try (have c185b1 : decide (t483 = t461) = false := by simpa using c185))
                                (try (have c185b2 : (t483 == t461) = false := by simpa using c185))
                                (try (have c185b3 : ¬ (t483 = t461) := by simpa using c185))
                                clear c185
                                exact absurd (H.trans (congrArg some HRT.out)) (by cases kj54 <;> simp [laws_FnDogsTurn.j6])
                               ·
                                rw [if_neg c185] at H
                                have c185b0 : (t483 != t461) = false := by simpa using c185
                                (try (have c185b1 : decide (t483 = t461) = true := by simpa using c185))
                                (try (have c185b2 : (t483 == t461) = true := by simpa using c185))
                                clear c185
                                by_cases c186 : (t493 != t461) = true
                                ·
                                 rw [if_pos c186] at H
                                 have c186b0 : (t493 != t461) = true := c186
                                 (try (have c186b1 : decide (t493 = t461) = false := by simpa using c186))
                                 (try (have c186b2 : (t493 == t461) = false := by simpa using c186))
                                 (try (have c186b3 : ¬ (t493 = t461) := by simpa using c186))
                                 clear c186
                                 exact absurd (H.trans (congrArg some HRT.out)) (by cases kj54 <;> simp [laws_FnDogsTurn.j6])
                                ·
                                 rw [if_neg c186] at H
                                 have c186b0 : (t493 != t461) = false := by simpa using c186
                                 (try (have c186b1 : decide (t493 = t461) = true := by simpa using c186))
                                 (try (have c186b2 : (t493 == t461) = true := by simpa using c186))
                                 clear c186
                                 have H' := Aside0.mk H
                                 clear H
                                 have hnb187 := NB494_397.out
                                 have hnc187 := NB397_494.out
                                 have hnb188 := NB494_456.out
                                 have hnc188 := NB456_494.out
                                 have hnb189 := NB494_500.out
                                 have hnc189 := NB500_494.out
                                 have hcz190_0 : w160.cell? ⟨gb494, 0, none⟩ = some (.int .i64 t489) := (blk_cell BK494.out 0).trans rfl
                                 have hcz190_1 : w160.cell? ⟨gb494, 1, none⟩ = some (.int .i64 t490) := (blk_cell BK494.out 1).trans rfl
                                 have hcz190_2 : w160.cell? ⟨gb494, 2, none⟩ = some (.int .i64 t491) := (blk_cell BK494.out 2).trans rfl
                                 have hcz190_3 : w160.cell? ⟨gb494, 3, none⟩ = some (.int .i64 t492) := (blk_cell BK494.out 3).trans rfl
                                 have hfz190_0 := blk_frozen BK494.out 0
                                 have hfz190_1 := blk_frozen BK494.out 1
                                 have hfz190_2 := blk_frozen BK494.out 2
                                 have hfz190_3 := blk_frozen BK494.out 3
                                 have hnb191 := NB500_397.out
                                 have hnc191 := NB397_500.out
                                 have hnb192 := NB500_456.out
                                 have hnc192 := NB456_500.out
                                 have hcz193_0 : w160.cell? ⟨gb500, 0, none⟩ = some (.int .i64 t495) := (blk_cell BK500.out 0).trans rfl
                                 have hcz193_1 : w160.cell? ⟨gb500, 1, none⟩ = some (.int .i64 t496) := (blk_cell BK500.out 1).trans rfl
                                 have hcz193_2 : w160.cell? ⟨gb500, 2, none⟩ = some (.int .i64 t497) := (blk_cell BK500.out 2).trans rfl
                                 have hcz193_3 : w160.cell? ⟨gb500, 3, none⟩ = some (.int .i64 t498) := (blk_cell BK500.out 3).trans rfl
                                 have hfz193_0 := blk_frozen BK500.out 0
                                 have hfz193_1 := blk_frozen BK500.out 1
                                 have hfz193_2 := blk_frozen BK500.out 2
                                 have hfz193_3 := blk_frozen BK500.out 3
                                 have hnb194 := NB456_397.out
                                 have hnc194 := NB397_456.out
                                 have hcz195_0 : w160.cell? ⟨gb456, 0, none⟩ = some (.int .i64 t452) := (blk_cell BK456.out 0).trans rfl
                                 have hcz195_1 : w160.cell? ⟨gb456, 1, none⟩ = some (.int .i64 t453) := (blk_cell BK456.out 1).trans rfl
                                 have hcz195_2 : w160.cell? ⟨gb456, 2, none⟩ = some (.int .i64 t454) := (blk_cell BK456.out 2).trans rfl
                                 have hcz195_3 : w160.cell? ⟨gb456, 3, none⟩ = some (.int .i64 t455) := (blk_cell BK456.out 3).trans rfl
                                 have hfz195_0 := blk_frozen BK456.out 0
                                 have hfz195_1 := blk_frozen BK456.out 1
                                 have hfz195_2 := blk_frozen BK456.out 2
                                 have hfz195_3 := blk_frozen BK456.out 3
                                 go_wp2_with (first | (go_at_call 13; (with_reducible refine (impl_IsChase.calls t452 t453 t454 t455 t505 _ A181.out).mono ?_); rintro e w196 ⟨rfl, hb⟩; have n0_ := Aside0.mk (blk_below (g := gb397) (o := .cells #[.int .i64 t392, .int .i64 t393, .int .i64 t394, .int .i64 t395] 25 (0, 0)) bk_ hb); have n1_ := Aside0.mk (blk_below (g := gb456) (o := .cells #[.int .i64 t452, .int .i64 t453, .int .i64 t454, .int .i64 t455] 25 (0, 0)) bk_ hb); have n2_ := Aside0.mk (blk_below (g := gb494) (o := .cells #[.int .i64 t489, .int .i64 t490, .int .i64 t491, .int .i64 t492] 25 (0, 0)) bk_ hb); have n3_ := Aside0.mk (blk_below (g := gb500) (o := .cells #[.int .i64 t495, .int .i64 t496, .int .i64 t497, .int .i64 t498] 25 (0, 0)) bk_ hb); have n4_ := Aside0.mk (below_step bw_ hb); clear BK397; clear BK456; clear BK494; clear BK500; clear HB; have BK397 := n0_; have BK456 := n1_; have BK494 := n2_; have BK500 := n3_; have HB := n4_; clear n0_ n1_ n2_ n3_ n4_; (try clear hb); (try clear hb2); (try clear hk); (try clear hi)))
                                 go_meet
                                 case rel => exact ⟨_, ((t502 != t461)), (by first | rfl | (simp; done) | (simp [*]; done)), H', ⟨by have := HJ11.out; have := HJ54.out; first | omega | exact Nat.le_refl _⟩, ⟨bk_⟩, ⟨bk_⟩, ⟨bk_⟩, ⟨bk_⟩, ⟨bw_⟩⟩
                           ·
                            rw [if_neg c180] at H
                            have c180b0 : (t501.toList == t503.toList) = false := beq_eq_false_iff_ne.mpr c180
                            have c180b1 : (t501.toList != t503.toList) = true := bne_iff_ne.mpr c180
                            exact absurd (H.trans (congrArg some HRT.out)) (by cases kj54 <;> simp [laws_FnDogsTurn.j6])
                       ·
                        rw [if_neg c176] at H
                        have c176b0 : (t482 == t487) = false := beq_eq_false_iff_ne.mpr c176
                        have c176b1 : (t482 != t487) = true := bne_iff_ne.mpr c176
                        exact absurd (H.trans (congrArg some HRT.out)) (by cases kj54 <;> simp [laws_FnDogsTurn.j6])
                      ·
                       rw [if_neg c175] at H
                       have c175b0 : (t481 == t486) = false := beq_eq_false_iff_ne.mpr c175
                       have c175b1 : (t481 != t486) = true := bne_iff_ne.mpr c175
                       exact absurd (H.trans (congrArg some HRT.out)) (by cases kj54 <;> simp [laws_FnDogsTurn.j6])
                     ·
                      rw [if_neg c174] at H
                      have c174b0 : (t480 == t485) = false := beq_eq_false_iff_ne.mpr c174
                      have c174b1 : (t480 != t485) = true := bne_iff_ne.mpr c174
                      exact absurd (H.trans (congrArg some HRT.out)) (by cases kj54 <;> simp [laws_FnDogsTurn.j6])
                    ·
                     rw [if_neg c173] at H
                     have c173b0 : (t479 == t484) = false := beq_eq_false_iff_ne.mpr c173
                     have c173b1 : (t479 != t484) = true := bne_iff_ne.mpr c173
                     exact absurd (H.trans (congrArg some HRT.out)) (by cases kj54 <;> simp [laws_FnDogsTurn.j6])
                  ·
                   rw [if_neg c171] at H
                   have c171b0 : (t474 == t477) = false := beq_eq_false_iff_ne.mpr c171
                   have c171b1 : (t474 != t477) = true := bne_iff_ne.mpr c171
                   exact absurd (H.trans (congrArg some HRT.out)) (by cases kj54 <;> simp [laws_FnDogsTurn.j6])
                 ·
                  rw [if_neg c170] at H
                  have c170b0 : (t473 == t476) = false := beq_eq_false_iff_ne.mpr c170
                  have c170b1 : (t473 != t476) = true := bne_iff_ne.mpr c170
                  exact absurd (H.trans (congrArg some HRT.out)) (by cases kj54 <;> simp [laws_FnDogsTurn.j6])
               ·
                rw [if_neg c168] at H
                have c168b0 : (t468 == t471) = false := beq_eq_false_iff_ne.mpr c168
                have c168b1 : (t468 != t471) = true := bne_iff_ne.mpr c168
                exact absurd (H.trans (congrArg some HRT.out)) (by cases kj54 <;> simp [laws_FnDogsTurn.j6])
              ·
               rw [if_neg c167] at H
               have c167b0 : (t467 == t470) = false := beq_eq_false_iff_ne.mpr c167
               have c167b1 : (t467 != t470) = true := bne_iff_ne.mpr c167
               exact absurd (H.trans (congrArg some HRT.out)) (by cases kj54 <;> simp [laws_FnDogsTurn.j6])
            ·
             rw [if_neg c165] at H
             have c165b0 : (t460 == t465) = false := beq_eq_false_iff_ne.mpr c165
             have c165b1 : (t460 != t465) = true := bne_iff_ne.mpr c165
             exact absurd (H.trans (congrArg some HRT.out)) (by cases kj54 <;> simp [laws_FnDogsTurn.j6])
           ·
            rw [if_neg c164] at H
            have c164b0 : (t459 == t464) = false := beq_eq_false_iff_ne.mpr c164
            have c164b1 : (t459 != t464) = true := bne_iff_ne.mpr c164
            exact absurd (H.trans (congrArg some HRT.out)) (by cases kj54 <;> simp [laws_FnDogsTurn.j6])
          ·
           rw [if_neg c163] at H
           have c163b0 : (t458 == t463) = false := beq_eq_false_iff_ne.mpr c163
           have c163b1 : (t458 != t463) = true := bne_iff_ne.mpr c163
           exact absurd (H.trans (congrArg some HRT.out)) (by cases kj54 <;> simp [laws_FnDogsTurn.j6])
         ·
          rw [if_neg c162] at H
          have c162b0 : (t457 == t462) = false := beq_eq_false_iff_ne.mpr c162
          have c162b1 : (t457 != t462) = true := bne_iff_ne.mpr c162
          exact absurd (H.trans (congrArg some HRT.out)) (by cases kj54 <;> simp [laws_FnDogsTurn.j6])
end Go.Proofs.YtajlcomankjcjabGreatDoor.PFnDogsTurn
