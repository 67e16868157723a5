-- Laid by a program of this session's (wip/gen/printp.sh): the functions that the law reaches, each with its walk.
import Derived.Test.YtajlcomankjcjabGreatDoorPFnDogsTurnx0
import Derived.Test.YtajlcomankjcjabGreatDoorPFnDogsTurnx1
import Derived.Test.YtajlcomankjcjabGreatDoorPFnDogsTurnx2
import Derived.Test.YtajlcomankjcjabGreatDoorPFnDogsTurnx3
import Derived.Test.YtajlcomankjcjabGreatDoorPFnDogsTurnx5
import Derived.Test.YtajlcomankjcjabGreatDoorPFnDogsTurnx6
import Derived.Test.YtajlcomankjcjabGreatDoorPFnDogsTurnx7
import Derived.Test.YtajlcomankjcjabGreatDoorPFnDogsTurnx8
import Derived.Test.YtajlcomankjcjabGreatDoorPFnDogsTurnx9
import Derived.Test.YtajlcomankjcjabGreatDoorPFnDogsTurnx10
import Derived.Test.YtajlcomankjcjabGreatDoorPFnDogsTurnx11
import Derived.Test.YtajlcomankjcjabGreatDoorPFnDogsTurnx12
namespace Go.Proofs.YtajlcomankjcjabGreatDoor.PFnDogsTurn
open Go.RowKit Go.Proofs.YtajlcomankjcjabGreatDoorW.PrintWords Go.Proofs.YtajlcomankjcjabGreatDoorW.PrintLast Go.Proofs.YtajlcomankjcjabGreatDoorW.PrintMore
attribute [local go_sem] max2_int min2_int max_two min_two max_three min_three max_four min_four   -- for this text's walks alone
set_option linter.unusedVariables false
set_option linter.unusedSimpArgs false

attribute [local go_sem high] eqA25
set_option maxHeartbeats 80000000 in
set_option maxRecDepth 100000 in
theorem laws_FnDogsTurn.case7 (k : Nat) (A0 : Option Addr) (c0 : Nat) (l0 : List Int) (A1 : Option Addr) (c1 : Nat) (l1 : List Int) (r : Bool) (w : World) : (laws_FnDogsTurn.part k A0 c0 l0 A1 c1 l1 r w).2.2.2.2.2.2.1 := by
        intro hL0 HRT hu25 HR0 HC0 HR1 HC1 A3 t392 t393 t394 t395 t396 A5 t398 t401 A6 t402 t405 A7 t406 t407 t408 A8 t409 t410 t411 A9 t412 t413 t414 A10 t415 t416 t417 A11 z1_ nd z2_ w13 gb397 w14 GW397 GE397 hcz15_0 hcz15_1 hcz15_2 hcz15_3 hfz15_0 hfz15_1 hfz15_2 hfz15_3 w16 v399 hcz17_0 hcz17_1 hcz17_2 hcz17_3 hfz17_0 hfz17_1 hfz17_2 hfz17_3 w18 v403 hcz19_0 hcz19_1 hcz19_2 hcz19_3 hfz19_0 hfz19_1 hfz19_2 hfz19_3 w20 hcz21_0 hcz21_1 hcz21_2 hcz21_3 hfz21_0 hfz21_1 hfz21_2 hfz21_3 w22 hcz23_0 hcz23_1 hcz23_2 hcz23_3 hfz23_0 hfz23_1 hfz23_2 hfz23_3 w24 hcz25_0 hcz25_1 hcz25_2 hcz25_3 hfz25_0 hfz25_1 hfz25_2 hfz25_3 w26 HO400 HO404 z3_ z4_ z5_ u129 u130 u131 u132 u133 u134 u135 u136 u137 u138 u139 u140 u141 u142 u143 u144 u145 u146 u147 u148 u149 u150 u151 u152 u153 u154 u155 u156 u157 u158 u159 u160 u161 u162 u163 u164 u165 u166 u167 u168 u169 u170 u171 u172 u173 u174 u175 u176 u177 u178 u179 u180 u181 u182 u183 u184 u185 u186 u187 u188 u189 u190 u191 HO_7 z6_ z7_ kj11 HJ11 z8_ u4 u23 u24 u25 u26 u27 u28 u29 u194 u195 u196 u197 u198 u199 u200 u201 u202 u203 u204 u205 u206 u207 u208 u209 u210 u211 u212 u213 u214 u215 u216 u217 u218 u219 u220 u221 u222 u223 u224 u225 u226 u227 u228 u229 u230 u231 u232 u233 u234 u235 u236 u237 u238 u239 u240 u241 u242 u243 u244 u245 u246 u247 u248 u249 u250 u251 u252 u253 u254 u255 u256 u257 u258 u259 u260 u261 u262 u263 u264 u265 u266 u267 u268 u269 u270 u271 u272 u273 u274 u275 u276 u277 u278 u279 u280 u281 u282 u283 u284 u285 u286 u287 u288 u289 u290 u291 u292 u293 u294 u295 u296 u297 u298 u299 u300 u301 u302 u303 u304 u305 u306 u307 u308 u309 u310 u311 u312 u313 u314 u315 u316 u317 u318 u319 u320 u321 u322 u323 u324 u325 u326 u327 u328 u329 u330 u331 u332 u333 u334 u335 u336 u337 u338 u339 u340 u341 u342 u343 u344 u345 u346 u347 u348 u349 u350 u351 u352 u353 u354 u355 u356 u357 u358 u359 u360 u361 u362 u363 u364 u365 u366 u367 u368 u369 u370 u371 u372 u373 u374 kj54 HJ54 t452 t453 t454 t455 A111 t457 t458 t459 t460 t461 A112 t462 t463 t464 t465 t466 A113 t467 t468 t469 A114 t470 t471 t472 A115 t473 t474 t475 A116 t476 t477 t478 A117 t479 t480 t481 t482 t483 A118 t484 t485 t486 t487 t488 A119 t489 t490 t491 t492 t493 A120 t495 t496 t497 t498 t499 A121 t501 t502 A122 t503 t504 A123 HC124 w125 gb456 w126 GW456 GE456 NB397_456 NB456_397 hnb127 hnc127 hcz128_0 hcz128_1 hcz128_2 hcz128_3 hfz128_0 hfz128_1 hfz128_2 hfz128_3 w129 hcz130_0 hcz130_1 hcz130_2 hcz130_3 hfz130_0 hfz130_1 hfz130_2 hfz130_3 w131 hcz132_0 hcz132_1 hcz132_2 hcz132_3 hfz132_0 hfz132_1 hfz132_2 hfz132_3 w133 hcz134_0 hcz134_1 hcz134_2 hcz134_3 hfz134_0 hfz134_1 hfz134_2 hfz134_3 w135 hcz136_0 hcz136_1 hcz136_2 hcz136_3 hfz136_0 hfz136_1 hfz136_2 hfz136_3 w137 hcz138_0 hcz138_1 hcz138_2 hcz138_3 hfz138_0 hfz138_1 hfz138_2 hfz138_3 w139 hcz140_0 hcz140_1 hcz140_2 hcz140_3 hfz140_0 hfz140_1 hfz140_2 hfz140_3 w141 hcz142_0 hcz142_1 hcz142_2 hcz142_3 hfz142_0 hfz142_1 hfz142_2 hfz142_3 w143 hcz144_0 hcz144_1 hcz144_2 hcz144_3 hfz144_0 hfz144_1 hfz144_2 hfz144_3 w145 gb494 w146 GW494 GE494 NB397_494 NB494_397 NB456_494 NB494_456 hnb147 hnc147 hnb148 hnc148 hcz149_0 hcz149_1 hcz149_2 hcz149_3 hfz149_0 hfz149_1 hfz149_2 hfz149_3 hcz150_0 hcz150_1 hcz150_2 hcz150_3 hfz150_0 hfz150_1 hfz150_2 hfz150_3 w151 gb500 w152 GW500 GE500 NB397_500 NB500_397 NB456_500 NB500_456 NB494_500 NB500_494 hnb153 hnc153 hnb154 hnc154 hnb155 hnc155 hcz156_0 hcz156_1 hcz156_2 hcz156_3 hfz156_0 hfz156_1 hfz156_2 hfz156_3 hcz157_0 hcz157_1 hcz157_2 hcz157_3 hfz157_0 hfz157_1 hfz157_2 hfz157_3 w158 hcz159_0 hcz159_1 hcz159_2 hcz159_3 hfz159_0 hfz159_1 hfz159_2 hfz159_3 w160 BK397 BK456 BK494 BK500 HB z9_ z10_ z11_ z12_ wc u453 u454 u455 u456 u457 u458 u459 u460 u461 u462 u463 u464 u465 u466 u467 u468 u469 u470 u471 u472 u473 u474 u475 u476 u477 u478 u479 u480 u481 u482 u483 u484 u485 u486 u487 u488 u489 u490 u491 u492 u493 u494 u495 u496 u497 u498 u499 u500 u501 u502 u503 u504 u505 u506 u507 u508 u509 u510 u511 u512 u513 u514 u515 u516 u517 u518 u519 u520 u521 u522 u523 u524 u525 u526 u527 u528 u529 u530 u531 u532 u533 u534 u535 u536 u537 u538 u539 u540 u541 u542 u543 u544 u545 u546 u547 u548 u549 u550 u551 u552 u553 u554 u555 u556 u557 u558 u559 u560 u561 u562 u563 u564 u565 u566 u567 u568 u569 u570 u571 u572 u573 u574 u575 u576 u577 u578 u579 u580 u581 hcut
        clear HC124
        (try clear c1); (try clear hcz128_0); (try clear hcz128_1); (try clear hcz128_2); (try clear hcz128_3); (try clear hcz130_0); (try clear hcz130_1); (try clear hcz130_2); (try clear hcz130_3); (try clear hcz132_0); (try clear hcz132_1); (try clear hcz132_2); (try clear hcz132_3); (try clear hcz134_0); (try clear hcz134_1); (try clear hcz134_2); (try clear hcz134_3); (try clear hcz136_0); (try clear hcz136_1); (try clear hcz136_2); (try clear hcz136_3); (try clear hcz138_0); (try clear hcz138_1); (try clear hcz138_2); (try clear hcz138_3); (try clear hcz140_0); (try clear hcz140_1); (try clear hcz140_2); (try clear hcz140_3); (try clear hcz142_0); (try clear hcz142_1); (try clear hcz142_2); (try clear hcz142_3); (try clear hcz144_0); (try clear hcz144_1); (try clear hcz144_2); (try clear hcz144_3); (try clear hcz149_0); (try clear hcz149_1); (try clear hcz149_2); (try clear hcz149_3); (try clear hcz150_0); (try clear hcz150_1); (try clear hcz150_2); (try clear hcz150_3); (try clear hcz156_0); (try clear hcz156_1); (try clear hcz156_2); (try clear hcz156_3); (try clear hcz157_0); (try clear hcz157_1); (try clear hcz157_2); (try clear hcz157_3); (try clear hcz159_0); (try clear hcz159_1); (try clear hcz159_2); (try clear hcz159_3); (try clear hfz128_0); (try clear hfz128_1); (try clear hfz128_2); (try clear hfz128_3); (try clear hfz130_0); (try clear hfz130_1); (try clear hfz130_2); (try clear hfz130_3); (try clear hfz132_0); (try clear hfz132_1); (try clear hfz132_2); (try clear hfz132_3); (try clear hfz134_0); (try clear hfz134_1); (try clear hfz134_2); (try clear hfz134_3); (try clear hfz136_0); (try clear hfz136_1); (try clear hfz136_2); (try clear hfz136_3); (try clear hfz138_0); (try clear hfz138_1); (try clear hfz138_2); (try clear hfz138_3); (try clear hfz140_0); (try clear hfz140_1); (try clear hfz140_2); (try clear hfz140_3); (try clear hfz142_0); (try clear hfz142_1); (try clear hfz142_2); (try clear hfz142_3); (try clear hfz144_0); (try clear hfz144_1); (try clear hfz144_2); (try clear hfz144_3); (try clear hfz149_0); (try clear hfz149_1); (try clear hfz149_2); (try clear hfz149_3); (try clear hfz150_0); (try clear hfz150_1); (try clear hfz150_2); (try clear hfz150_3); (try clear hfz156_0); (try clear hfz156_1); (try clear hfz156_2); (try clear hfz156_3); (try clear hfz157_0); (try clear hfz157_1); (try clear hfz157_2); (try clear hfz157_3); (try clear hfz159_0); (try clear hfz159_1); (try clear hfz159_2); (try clear hfz159_3)
        obtain ⟨kq, x581_123, rfl, HA, HJ123, BK397, BK456, BK494, BK500, HB⟩ := hcut
        cases kq with
        | zero => exact absurd HA.out (by simp [laws_FnDogsTurn.j6])
        | succ kj123 =>
         have H := HA.out
         clear HA
         simp only [laws_FnDogsTurn.j6] at H
         by_cases c197 : x581_123 = true
         ·
          subst c197
          rw [if_pos rfl] at H
          exact absurd ((Option.some.inj H).trans HRT.out) (by decide)
         ·
          replace c197 := Bool.eq_false_iff.mpr c197
          subst c197
          rw [if_neg (show ¬ (false = true) by decide)] at H
          by_cases c198 : t461 = true
          ·
           subst c198
           rw [if_pos rfl] at H
           replace H := Option.bind_eq_some_iff.mp H
           obtain ⟨⟨t506, t507, t508⟩, A1990, H⟩ := H
           (try dsimp only at H)
           have A199 := Aside0.mk A1990
           clear A1990
           replace H := Option.bind_eq_some_iff.mp H
           obtain ⟨⟨t509, t510, t511⟩, A2000, H⟩ := H
           (try dsimp only at H)
           have A200 := Aside0.mk A2000
           clear A2000
           replace H := Option.bind_eq_some_iff.mp H
           obtain ⟨⟨t512, t513, t514, t515, t516⟩, A2010, H⟩ := H
           (try dsimp only at H)
           have A201 := Aside0.mk A2010
           clear A2010
           replace H := Option.bind_eq_some_iff.mp H
           obtain ⟨⟨t518, t519, t520, t521, t522⟩, A2020, H⟩ := H
           (try dsimp only at H)
           have A202 := Aside0.mk A2020
           clear A2020
           replace H := Option.bind_eq_some_iff.mp H
           obtain ⟨t524, A2030, H⟩ := H
           (try dsimp only at H)
           have A203 := Aside0.mk A2030
           clear A2030
           by_cases c204 : t524 = true
           ·
            subst c204
            rw [if_pos rfl] at H
            replace H := Option.bind_eq_some_iff.mp H
            obtain ⟨t525, A2050, H⟩ := H
            (try dsimp only at H)
            have A205 := Aside0.mk A2050
            clear A2050
            by_cases c206 : t525 = true
            ·
             subst c206
             rw [if_pos rfl] at H
             by_cases c207 : t508 = true
             ·
              subst c207
              rw [if_pos rfl] at H
              by_cases c208 : (wrap64 (t506 * t458)) = (wrap64 ((wrap64 (t507 * t457)) * t452))
              ·
               rw [if_pos c208] at H
               have c208b0 : ((wrap64 (t506 * t458)) == (wrap64 ((wrap64 (t507 * t457)) * t452))) = true := beq_iff_eq.mpr c208
               have c208b1 : ((wrap64 (t506 * t458)) != (wrap64 ((wrap64 (t507 * t457)) * t452))) = false := bne_eq_false_iff_eq.mpr c208
               clear c208
               by_cases c209 : t511 = true
               ·
                subst c209
                rw [if_pos rfl] at H
                by_cases c210 : (wrap64 ((wrap64 (t509 * t460)) * t507)) = (wrap64 ((wrap64 (t510 * t506)) * t459))
                ·
                 rw [if_pos c210] at H
                 have c210b0 : ((wrap64 ((wrap64 (t509 * t460)) * t507)) == (wrap64 ((wrap64 (t510 * t506)) * t459))) = true := beq_iff_eq.mpr c210
                 have c210b1 : ((wrap64 ((wrap64 (t509 * t460)) * t507)) != (wrap64 ((wrap64 (t510 * t506)) * t459))) = false := bne_eq_false_iff_eq.mpr c210
                 clear c210
                 by_cases c211 : t516 = true
                 ·
                  subst c211
                  rw [if_pos rfl] at H
                  by_cases c212 : (!(t512 == t452) || (!(t513 == t453) || (!(t514 == t454) || (!(t515 == t455))))) = true
                  ·
                   rw [if_pos c212] at H
                   have c212b0 : (!(t512 == t452) || (!(t513 == t453) || (!(t514 == t454) || (!(t515 == t455))))) = true := c212
                   clear c212
                   exact absurd ((Option.some.inj H).trans HRT.out) (by decide)
                  ·
                   rw [if_neg c212] at H
                   have c212b0 : (!(t512 == t452) || (!(t513 == t453) || (!(t514 == t454) || (!(t515 == t455))))) = false := by simpa using c212
                   clear c212
                   by_cases c213 : t522 = true
                   ·
                    subst c213
                    rw [if_pos rfl] at H
                    by_cases c214 : (!(t518 == t452) || (!(t519 == t453) || (!(t520 == t454) || (!(t521 == t455))))) = true
                    ·
                     rw [if_pos c214] at H
                     have c214b0 : (!(t518 == t452) || (!(t519 == t453) || (!(t520 == t454) || (!(t521 == t455))))) = true := c214
                     clear c214
                     exact absurd ((Option.some.inj H).trans HRT.out) (by decide)
                    ·
                     rw [if_neg c214] at H
                     have c214b0 : (!(t518 == t452) || (!(t519 == t453) || (!(t520 == t454) || (!(t521 == t455))))) = false := by simpa using c214
                     clear c214
                     by_cases c215 : (wrap64 (t473 * t468)) = (wrap64 ((wrap64 (t474 * t467)) * t455))
                     ·
                      rw [if_pos c215] at H
                      have c215b0 : ((wrap64 (t473 * t468)) == (wrap64 ((wrap64 (t474 * t467)) * t455))) = true := beq_iff_eq.mpr c215
                      have c215b1 : ((wrap64 (t473 * t468)) != (wrap64 ((wrap64 (t474 * t467)) * t455))) = false := bne_eq_false_iff_eq.mpr c215
                      clear c215
                      by_cases c216 : (wrap64 (t467 * (wrap64 (t453 + t454)))) = (wrap64 (t468 * t452))
                      ·
                       rw [if_pos c216] at H
                       have c216b0 : ((wrap64 (t467 * (wrap64 (t453 + t454)))) == (wrap64 (t468 * t452))) = true := beq_iff_eq.mpr c216
                       have c216b1 : ((wrap64 (t467 * (wrap64 (t453 + t454)))) != (wrap64 (t468 * t452))) = false := bne_eq_false_iff_eq.mpr c216
                       clear c216
                       by_cases c217 : (wrap64 ((wrap64 (t479 * t482)) + (wrap64 (t481 * t480)))) = (wrap64 ((wrap64 (t452 * t480)) * t482))
                       ·
                        rw [if_pos c217] at H
                        have c217b0 : ((wrap64 ((wrap64 (t479 * t482)) + (wrap64 (t481 * t480)))) == (wrap64 ((wrap64 (t452 * t480)) * t482))) = true := beq_iff_eq.mpr c217
                        have c217b1 : ((wrap64 ((wrap64 (t479 * t482)) + (wrap64 (t481 * t480)))) != (wrap64 ((wrap64 (t452 * t480)) * t482))) = false := bne_eq_false_iff_eq.mpr c217
                        clear c217
                        obtain rfl := Option.some.inj H
                        have hnb218 := NB456_397.out
                        have hnc218 := NB397_456.out
                        have hnb219 := NB456_494.out
                        have hnc219 := NB494_456.out
                        have hnb220 := NB456_500.out
                        have hnc220 := NB500_456.out
                        have hcz221_0 : wc.cell? ⟨gb456, 0, none⟩ = some (.int .i64 t452) := (blk_cell BK456.out 0).trans rfl
                        have hcz221_1 : wc.cell? ⟨gb456, 1, none⟩ = some (.int .i64 t453) := (blk_cell BK456.out 1).trans rfl
                        have hcz221_2 : wc.cell? ⟨gb456, 2, none⟩ = some (.int .i64 t454) := (blk_cell BK456.out 2).trans rfl
                        have hcz221_3 : wc.cell? ⟨gb456, 3, none⟩ = some (.int .i64 t455) := (blk_cell BK456.out 3).trans rfl
                        have hfz221_0 := blk_frozen BK456.out 0
                        have hfz221_1 := blk_frozen BK456.out 1
                        have hfz221_2 := blk_frozen BK456.out 2
                        have hfz221_3 := blk_frozen BK456.out 3
                        go_wp2_with (first | ((with_reducible refine gate_callee (f := 8) rfl ?_); refine goesL_ (some 585) rfl rfl Tryz.func8 (by kernel_rfl) rfl #[.agg #[.int .i64 t452, .int .i64 t453, .int .i64 t454, .int .i64 t455], .int .i64 1] rfl (by (try simp only [List.map_toArray, List.map_cons, List.map_nil]); first | done | rfl | (simp only [List.length_drop, List.length_take]; rfl)) ?_; (with_reducible refine (impl_ApartAfterTurn.calls kj123 t452 t453 t454 t455 1 t506 t507 true _ A199.out).mono ?_); rintro e w222 ⟨rfl, hb⟩; refine ⟨_, rfl, ?_⟩; have n0_ := Aside0.mk (blk_below (g := gb397) (o := .cells #[.int .i64 t392, .int .i64 t393, .int .i64 t394, .int .i64 t395] 25 (0, 0)) bk_ hb); have n1_ := Aside0.mk (blk_below (g := gb456) (o := .cells #[.int .i64 t452, .int .i64 t453, .int .i64 t454, .int .i64 t455] 25 (0, 0)) bk_ hb); have n2_ := Aside0.mk (blk_below (g := gb494) (o := .cells #[.int .i64 t489, .int .i64 t490, .int .i64 t491, .int .i64 t492] 25 (0, 0)) bk_ hb); have n3_ := Aside0.mk (blk_below (g := gb500) (o := .cells #[.int .i64 t495, .int .i64 t496, .int .i64 t497, .int .i64 t498] 25 (0, 0)) bk_ hb); have n4_ := Aside0.mk (below_step bw_ hb); clear BK397; clear BK456; clear BK494; clear BK500; clear HB; have BK397 := n0_; have BK456 := n1_; have BK494 := n2_; have BK500 := n3_; have HB := n4_; clear n0_ n1_ n2_ n3_ n4_; (try clear hb); (try clear hb2); (try clear hk); (try clear hi); have hcz223_0 : w222.cell? ⟨gb456, 0, none⟩ = some (.int .i64 t452) := (blk_cell BK456.out 0).trans rfl; have hcz223_1 : w222.cell? ⟨gb456, 1, none⟩ = some (.int .i64 t453) := (blk_cell BK456.out 1).trans rfl; have hcz223_2 : w222.cell? ⟨gb456, 2, none⟩ = some (.int .i64 t454) := (blk_cell BK456.out 2).trans rfl; have hcz223_3 : w222.cell? ⟨gb456, 3, none⟩ = some (.int .i64 t455) := (blk_cell BK456.out 3).trans rfl; have hfz223_0 := blk_frozen BK456.out 0; have hfz223_1 := blk_frozen BK456.out 1; have hfz223_2 := blk_frozen BK456.out 2; have hfz223_3 := blk_frozen BK456.out 3) | ((with_reducible refine gate_callee (f := 8) rfl ?_); refine goesL_ (some 591) rfl rfl Tryz.func8 (by kernel_rfl) rfl #[.agg #[.int .i64 t452, .int .i64 t453, .int .i64 t454, .int .i64 t455], .int .i64 2] rfl (by (try simp only [List.map_toArray, List.map_cons, List.map_nil]); first | done | rfl | (simp only [List.length_drop, List.length_take]; rfl)) ?_; (with_reducible refine (impl_ApartAfterTurn.calls kj123 t452 t453 t454 t455 2 t509 t510 true _ A200.out).mono ?_); rintro e w224 ⟨rfl, hb⟩; refine ⟨_, rfl, ?_⟩; have n0_ := Aside0.mk (blk_below (g := gb397) (o := .cells #[.int .i64 t392, .int .i64 t393, .int .i64 t394, .int .i64 t395] 25 (0, 0)) bk_ hb); have n1_ := Aside0.mk (blk_below (g := gb456) (o := .cells #[.int .i64 t452, .int .i64 t453, .int .i64 t454, .int .i64 t455] 25 (0, 0)) bk_ hb); have n2_ := Aside0.mk (blk_below (g := gb494) (o := .cells #[.int .i64 t489, .int .i64 t490, .int .i64 t491, .int .i64 t492] 25 (0, 0)) bk_ hb); have n3_ := Aside0.mk (blk_below (g := gb500) (o := .cells #[.int .i64 t495, .int .i64 t496, .int .i64 t497, .int .i64 t498] 25 (0, 0)) bk_ hb); have n4_ := Aside0.mk (below_step bw_ hb); clear BK397; clear BK456; clear BK494; clear BK500; clear HB; have BK397 := n0_; have BK456 := n1_; have BK494 := n2_; have BK500 := n3_; have HB := n4_; clear n0_ n1_ n2_ n3_ n4_; (try clear hb); (try clear hb2); (try clear hk); (try clear hi)) | ((with_reducible refine gate_callee (f := 29) rfl ?_); refine goesL_ (some 597) rfl rfl Tryz.func29 (by kernel_rfl) rfl #[.string t501] rfl (by (try simp only [List.map_toArray, List.map_cons, List.map_nil]); first | done | rfl | (simp only [List.length_drop, List.length_take]; rfl)) ?_; (with_reducible refine (impl_ParseChase.calls kj123 t501 t512 t513 t514 t515 true _ A201.out).mono ?_); rintro e w225 ⟨rfl, hb⟩; refine ⟨_, rfl, ?_⟩; have n0_ := Aside0.mk (blk_below (g := gb397) (o := .cells #[.int .i64 t392, .int .i64 t393, .int .i64 t394, .int .i64 t395] 25 (0, 0)) bk_ hb); have n1_ := Aside0.mk (blk_below (g := gb456) (o := .cells #[.int .i64 t452, .int .i64 t453, .int .i64 t454, .int .i64 t455] 25 (0, 0)) bk_ hb); have n2_ := Aside0.mk (blk_below (g := gb494) (o := .cells #[.int .i64 t489, .int .i64 t490, .int .i64 t491, .int .i64 t492] 25 (0, 0)) bk_ hb); have n3_ := Aside0.mk (blk_below (g := gb500) (o := .cells #[.int .i64 t495, .int .i64 t496, .int .i64 t497, .int .i64 t498] 25 (0, 0)) bk_ hb); have n4_ := Aside0.mk (below_step bw_ hb); clear BK397; clear BK456; clear BK494; clear BK500; clear HB; have BK397 := n0_; have BK456 := n1_; have BK494 := n2_; have BK500 := n3_; have HB := n4_; clear n0_ n1_ n2_ n3_ n4_; (try clear hb); (try clear hb2); (try clear hk); (try clear hi)) | ((with_reducible refine gate_dst (N := 77) rfl ?_); refine box_event ?hg (N := 77) ?hd (cs := #[.int .i64 0, .int .i64 0, .int .i64 0, .int .i64 0]) (t := 25) ?hr ?_; (case hd => rfl); (case hg => rfl); (case hr => first | (go_simp; done) | (go_simp; rfl)); intro gb517 hg w226 hbox hb; have n0_ := Aside0.mk (blk_below (g := gb397) (o := .cells #[.int .i64 t392, .int .i64 t393, .int .i64 t394, .int .i64 t395] 25 (0, 0)) bk_ hb); have n1_ := Aside0.mk (blk_below (g := gb456) (o := .cells #[.int .i64 t452, .int .i64 t453, .int .i64 t454, .int .i64 t455] 25 (0, 0)) bk_ hb); have n2_ := Aside0.mk (blk_below (g := gb494) (o := .cells #[.int .i64 t489, .int .i64 t490, .int .i64 t491, .int .i64 t492] 25 (0, 0)) bk_ hb); have n3_ := Aside0.mk (blk_below (g := gb500) (o := .cells #[.int .i64 t495, .int .i64 t496, .int .i64 t497, .int .i64 t498] 25 (0, 0)) bk_ hb); have n4_ := Aside0.mk (below_step bw_ hb); have n5_ := Aside0.mk (hbox); have n6_ := Aside0.mk ((by rw [hg]; exact (below_size bw_) : w.heap.size ≤ gb517)); have n7_ := Aside0.mk ((by rw [hg]; exact (below_size bw_) : w.heap.size ≤ gb517)); have n8_ := Aside0.mk ((by rw [hg]; exact Nat.ne_of_lt (blk_lt (g := gb397) (o := .cells #[.int .i64 t392, .int .i64 t393, .int .i64 t394, .int .i64 t395] 25 (0, 0)) bk_) : gb397 ≠ gb517)); have n9_ := Aside0.mk ((by rw [hg]; exact Nat.ne_of_gt (blk_lt (g := gb397) (o := .cells #[.int .i64 t392, .int .i64 t393, .int .i64 t394, .int .i64 t395] 25 (0, 0)) bk_) : gb517 ≠ gb397)); have n10_ := Aside0.mk ((by rw [hg]; exact Nat.ne_of_lt (blk_lt (g := gb456) (o := .cells #[.int .i64 t452, .int .i64 t453, .int .i64 t454, .int .i64 t455] 25 (0, 0)) bk_) : gb456 ≠ gb517)); have n11_ := Aside0.mk ((by rw [hg]; exact Nat.ne_of_gt (blk_lt (g := gb456) (o := .cells #[.int .i64 t452, .int .i64 t453, .int .i64 t454, .int .i64 t455] 25 (0, 0)) bk_) : gb517 ≠ gb456)); have n12_ := Aside0.mk ((by rw [hg]; exact Nat.ne_of_lt (blk_lt (g := gb494) (o := .cells #[.int .i64 t489, .int .i64 t490, .int .i64 t491, .int .i64 t492] 25 (0, 0)) bk_) : gb494 ≠ gb517)); have n13_ := Aside0.mk ((by rw [hg]; exact Nat.ne_of_gt (blk_lt (g := gb494) (o := .cells #[.int .i64 t489, .int .i64 t490, .int .i64 t491, .int .i64 t492] 25 (0, 0)) bk_) : gb517 ≠ gb494)); have n14_ := Aside0.mk ((by rw [hg]; exact Nat.ne_of_lt (blk_lt (g := gb500) (o := .cells #[.int .i64 t495, .int .i64 t496, .int .i64 t497, .int .i64 t498] 25 (0, 0)) bk_) : gb500 ≠ gb517)); have n15_ := Aside0.mk ((by rw [hg]; exact Nat.ne_of_gt (blk_lt (g := gb500) (o := .cells #[.int .i64 t495, .int .i64 t496, .int .i64 t497, .int .i64 t498] 25 (0, 0)) bk_) : gb517 ≠ gb500)); clear BK397; clear BK456; clear BK494; clear BK500; clear HB; have BK397 := n0_; have BK456 := n1_; have BK494 := n2_; have BK500 := n3_; have HB := n4_; have BK517 := n5_; have GW517 := n6_; have GE517 := n7_; have NB397_517 := n8_; have NB517_397 := n9_; have NB456_517 := n10_; have NB517_456 := n11_; have NB494_517 := n12_; have NB517_494 := n13_; have NB500_517 := n14_; have NB517_500 := n15_; clear n0_ n1_ n2_ n3_ n4_ n5_ n6_ n7_ n8_ n9_ n10_ n11_ n12_ n13_ n14_ n15_; clear hb hbox hg; have hnb227 := NB517_397.out; have hnc227 := NB397_517.out; have hnb228 := NB517_456.out; have hnc228 := NB456_517.out; have hnb229 := NB517_494.out; have hnc229 := NB494_517.out; have hnb230 := NB517_500.out; have hnc230 := NB500_517.out; have hcz231_0 : w226.cell? ⟨gb517, 0, none⟩ = some (.int .i64 0) := (blk_cell BK517.out 0).trans rfl; have hcz231_1 : w226.cell? ⟨gb517, 1, none⟩ = some (.int .i64 0) := (blk_cell BK517.out 1).trans rfl; have hcz231_2 : w226.cell? ⟨gb517, 2, none⟩ = some (.int .i64 0) := (blk_cell BK517.out 2).trans rfl; have hcz231_3 : w226.cell? ⟨gb517, 3, none⟩ = some (.int .i64 0) := (blk_cell BK517.out 3).trans rfl; have hfz231_0 := blk_frozen BK517.out 0; have hfz231_1 := blk_frozen BK517.out 1; have hfz231_2 := blk_frozen BK517.out 2; have hfz231_3 := blk_frozen BK517.out 3; have hnb232 := NB494_397.out; have hnc232 := NB397_494.out; have hnb233 := NB494_500.out; have hnc233 := NB500_494.out; have hcz234_0 : w226.cell? ⟨gb494, 0, none⟩ = some (.int .i64 t489) := (blk_cell BK494.out 0).trans rfl; have hcz234_1 : w226.cell? ⟨gb494, 1, none⟩ = some (.int .i64 t490) := (blk_cell BK494.out 1).trans rfl; have hcz234_2 : w226.cell? ⟨gb494, 2, none⟩ = some (.int .i64 t491) := (blk_cell BK494.out 2).trans rfl; have hcz234_3 : w226.cell? ⟨gb494, 3, none⟩ = some (.int .i64 t492) := (blk_cell BK494.out 3).trans rfl; have hfz234_0 := blk_frozen BK494.out 0; have hfz234_1 := blk_frozen BK494.out 1; have hfz234_2 := blk_frozen BK494.out 2; have hfz234_3 := blk_frozen BK494.out 3) | ((with_reducible refine gate_callee (f := 25) rfl ?_); refine goesL_ (some 602) rfl rfl Tryz.func25 (by kernel_rfl) rfl #[.agg #[.int .i64 t489, .int .i64 t490, .int .i64 t491, .int .i64 t492]] rfl (by (try simp only [List.map_toArray, List.map_cons, List.map_nil]); first | done | rfl | (simp only [List.length_drop, List.length_take]; rfl)) ?_; (with_reducible refine (impl_TurnChase.calls t489 t490 t491 t492 t518 t519 t520 t521 true _ A202.out).mono ?_); rintro e w235 ⟨rfl, hb⟩; refine ⟨_, rfl, ?_⟩; have n0_ := Aside0.mk (blk_below (g := gb397) (o := .cells #[.int .i64 t392, .int .i64 t393, .int .i64 t394, .int .i64 t395] 25 (0, 0)) (by (with_reducible repeat (first | refine blk_drewN ?_ _ | refine blk_drew ?_ | refine blk_alloc ?_ _)); refine blk_far ?_ NB397_517.out _; (with_reducible repeat (first | refine blk_drewN ?_ _ | refine blk_drew ?_ | refine blk_alloc ?_ _)); refine blk_far ?_ NB397_517.out _; (with_reducible repeat (first | refine blk_drewN ?_ _ | refine blk_drew ?_ | refine blk_alloc ?_ _)); refine blk_far ?_ NB397_517.out _; (with_reducible repeat (first | refine blk_drewN ?_ _ | refine blk_drew ?_ | refine blk_alloc ?_ _)); refine blk_far ?_ NB397_517.out _; (with_reducible repeat (first | refine blk_drewN ?_ _ | refine blk_drew ?_ | refine blk_alloc ?_ _)); exact BK397.out) hb); have n1_ := Aside0.mk (blk_below (g := gb456) (o := .cells #[.int .i64 t452, .int .i64 t453, .int .i64 t454, .int .i64 t455] 25 (0, 0)) (by (with_reducible repeat (first | refine blk_drewN ?_ _ | refine blk_drew ?_ | refine blk_alloc ?_ _)); refine blk_far ?_ NB456_517.out _; (with_reducible repeat (first | refine blk_drewN ?_ _ | refine blk_drew ?_ | refine blk_alloc ?_ _)); refine blk_far ?_ NB456_517.out _; (with_reducible repeat (first | refine blk_drewN ?_ _ | refine blk_drew ?_ | refine blk_alloc ?_ _)); refine blk_far ?_ NB456_517.out _; (with_reducible repeat (first | refine blk_drewN ?_ _ | refine blk_drew ?_ | refine blk_alloc ?_ _)); refine blk_far ?_ NB456_517.out _; (with_reducible repeat (first | refine blk_drewN ?_ _ | refine blk_drew ?_ | refine blk_alloc ?_ _)); exact BK456.out) hb); have n2_ := Aside0.mk (blk_below (g := gb494) (o := .cells #[.int .i64 t489, .int .i64 t490, .int .i64 t491, .int .i64 t492] 25 (0, 0)) (by (with_reducible repeat (first | refine blk_drewN ?_ _ | refine blk_drew ?_ | refine blk_alloc ?_ _)); refine blk_far ?_ NB494_517.out _; (with_reducible repeat (first | refine blk_drewN ?_ _ | refine blk_drew ?_ | refine blk_alloc ?_ _)); refine blk_far ?_ NB494_517.out _; (with_reducible repeat (first | refine blk_drewN ?_ _ | refine blk_drew ?_ | refine blk_alloc ?_ _)); refine blk_far ?_ NB494_517.out _; (with_reducible repeat (first | refine blk_drewN ?_ _ | refine blk_drew ?_ | refine blk_alloc ?_ _)); refine blk_far ?_ NB494_517.out _; (with_reducible repeat (first | refine blk_drewN ?_ _ | refine blk_drew ?_ | refine blk_alloc ?_ _)); exact BK494.out) hb); have n3_ := Aside0.mk (blk_below (g := gb500) (o := .cells #[.int .i64 t495, .int .i64 t496, .int .i64 t497, .int .i64 t498] 25 (0, 0)) (by (with_reducible repeat (first | refine blk_drewN ?_ _ | refine blk_drew ?_ | refine blk_alloc ?_ _)); refine blk_far ?_ NB500_517.out _; (with_reducible repeat (first | refine blk_drewN ?_ _ | refine blk_drew ?_ | refine blk_alloc ?_ _)); refine blk_far ?_ NB500_517.out _; (with_reducible repeat (first | refine blk_drewN ?_ _ | refine blk_drew ?_ | refine blk_alloc ?_ _)); refine blk_far ?_ NB500_517.out _; (with_reducible repeat (first | refine blk_drewN ?_ _ | refine blk_drew ?_ | refine blk_alloc ?_ _)); refine blk_far ?_ NB500_517.out _; (with_reducible repeat (first | refine blk_drewN ?_ _ | refine blk_drew ?_ | refine blk_alloc ?_ _)); exact BK500.out) hb); have n4_ := Aside0.mk (blk_below (g := gb517) (o := .cells #[.int .i64 t512, .int .i64 t513, .int .i64 t514, .int .i64 t515] 25 (0, 0)) (by (with_reducible repeat (first | refine blk_drewN ?_ _ | refine blk_drew ?_ | refine blk_alloc ?_ _)); refine blk_put (cs := #[.int .i64 t512, .int .i64 t513, .int .i64 t514, .int .i64 0]) ?_ 3 _ rfl; (with_reducible repeat (first | refine blk_drewN ?_ _ | refine blk_drew ?_ | refine blk_alloc ?_ _)); refine blk_put (cs := #[.int .i64 t512, .int .i64 t513, .int .i64 0, .int .i64 0]) ?_ 2 _ rfl; (with_reducible repeat (first | refine blk_drewN ?_ _ | refine blk_drew ?_ | refine blk_alloc ?_ _)); refine blk_put (cs := #[.int .i64 t512, .int .i64 0, .int .i64 0, .int .i64 0]) ?_ 1 _ rfl; (with_reducible repeat (first | refine blk_drewN ?_ _ | refine blk_drew ?_ | refine blk_alloc ?_ _)); refine blk_put (cs := #[.int .i64 0, .int .i64 0, .int .i64 0, .int .i64 0]) ?_ 0 _ rfl; (with_reducible repeat (first | refine blk_drewN ?_ _ | refine blk_drew ?_ | refine blk_alloc ?_ _)); exact BK517.out) hb); have n5_ := Aside0.mk (below_step bw_ hb); clear BK397; clear BK456; clear BK494; clear BK500; clear BK517; clear HB; have BK397 := n0_; have BK456 := n1_; have BK494 := n2_; have BK500 := n3_; have BK517 := n4_; have HB := n5_; clear n0_ n1_ n2_ n3_ n4_ n5_; (try clear hb); (try clear hb2); (try clear hk); (try clear hi)) | ((with_reducible refine gate_dst (N := 79) rfl ?_); refine box_event ?hg (N := 79) ?hd (cs := #[.int .i64 0, .int .i64 0, .int .i64 0, .int .i64 0]) (t := 25) ?hr ?_; (case hd => rfl); (case hg => rfl); (case hr => first | (go_simp; done) | (go_simp; rfl)); intro gb523 hg w236 hbox hb; have n0_ := Aside0.mk (blk_below (g := gb397) (o := .cells #[.int .i64 t392, .int .i64 t393, .int .i64 t394, .int .i64 t395] 25 (0, 0)) bk_ hb); have n1_ := Aside0.mk (blk_below (g := gb456) (o := .cells #[.int .i64 t452, .int .i64 t453, .int .i64 t454, .int .i64 t455] 25 (0, 0)) bk_ hb); have n2_ := Aside0.mk (blk_below (g := gb494) (o := .cells #[.int .i64 t489, .int .i64 t490, .int .i64 t491, .int .i64 t492] 25 (0, 0)) bk_ hb); have n3_ := Aside0.mk (blk_below (g := gb500) (o := .cells #[.int .i64 t495, .int .i64 t496, .int .i64 t497, .int .i64 t498] 25 (0, 0)) bk_ hb); have n4_ := Aside0.mk (blk_below (g := gb517) (o := .cells #[.int .i64 t512, .int .i64 t513, .int .i64 t514, .int .i64 t515] 25 (0, 0)) bk_ hb); have n5_ := Aside0.mk (below_step bw_ hb); have n6_ := Aside0.mk (hbox); have n7_ := Aside0.mk ((by rw [hg]; exact (below_size bw_) : w.heap.size ≤ gb523)); have n8_ := Aside0.mk ((by rw [hg]; exact (below_size bw_) : w.heap.size ≤ gb523)); have n9_ := Aside0.mk ((by rw [hg]; exact Nat.ne_of_lt (blk_lt (g := gb397) (o := .cells #[.int .i64 t392, .int .i64 t393, .int .i64 t394, .int .i64 t395] 25 (0, 0)) bk_) : gb397 ≠ gb523)); have n10_ := Aside0.mk ((by rw [hg]; exact Nat.ne_of_gt (blk_lt (g := gb397) (o := .cells #[.int .i64 t392, .int .i64 t393, .int .i64 t394, .int .i64 t395] 25 (0, 0)) bk_) : gb523 ≠ gb397)); have n11_ := Aside0.mk ((by rw [hg]; exact Nat.ne_of_lt (blk_lt (g := gb456) (o := .cells #[.int .i64 t452, .int .i64 t453, .int .i64 t454, .int .i64 t455] 25 (0, 0)) bk_) : gb456 ≠ gb523)); have n12_ := Aside0.mk ((by rw [hg]; exact Nat.ne_of_gt (blk_lt (g := gb456) (o := .cells #[.int .i64 t452, .int .i64 t453, .int .i64 t454, .int .i64 t455] 25 (0, 0)) bk_) : gb523 ≠ gb456)); have n13_ := Aside0.mk ((by rw [hg]; exact Nat.ne_of_lt (blk_lt (g := gb494) (o := .cells #[.int .i64 t489, .int .i64 t490, .int .i64 t491, .int .i64 t492] 25 (0, 0)) bk_) : gb494 ≠ gb523)); have n14_ := Aside0.mk ((by rw [hg]; exact Nat.ne_of_gt (blk_lt (g := gb494) (o := .cells #[.int .i64 t489, .int .i64 t490, .int .i64 t491, .int .i64 t492] 25 (0, 0)) bk_) : gb523 ≠ gb494)); have n15_ := Aside0.mk ((by rw [hg]; exact Nat.ne_of_lt (blk_lt (g := gb500) (o := .cells #[.int .i64 t495, .int .i64 t496, .int .i64 t497, .int .i64 t498] 25 (0, 0)) bk_) : gb500 ≠ gb523)); have n16_ := Aside0.mk ((by rw [hg]; exact Nat.ne_of_gt (blk_lt (g := gb500) (o := .cells #[.int .i64 t495, .int .i64 t496, .int .i64 t497, .int .i64 t498] 25 (0, 0)) bk_) : gb523 ≠ gb500)); have n17_ := Aside0.mk ((by rw [hg]; exact Nat.ne_of_lt (blk_lt (g := gb517) (o := .cells #[.int .i64 t512, .int .i64 t513, .int .i64 t514, .int .i64 t515] 25 (0, 0)) bk_) : gb517 ≠ gb523)); have n18_ := Aside0.mk ((by rw [hg]; exact Nat.ne_of_gt (blk_lt (g := gb517) (o := .cells #[.int .i64 t512, .int .i64 t513, .int .i64 t514, .int .i64 t515] 25 (0, 0)) bk_) : gb523 ≠ gb517)); clear BK397; clear BK456; clear BK494; clear BK500; clear BK517; clear HB; have BK397 := n0_; have BK456 := n1_; have BK494 := n2_; have BK500 := n3_; have BK517 := n4_; have HB := n5_; have BK523 := n6_; have GW523 := n7_; have GE523 := n8_; have NB397_523 := n9_; have NB523_397 := n10_; have NB456_523 := n11_; have NB523_456 := n12_; have NB494_523 := n13_; have NB523_494 := n14_; have NB500_523 := n15_; have NB523_500 := n16_; have NB517_523 := n17_; have NB523_517 := n18_; clear n0_ n1_ n2_ n3_ n4_ n5_ n6_ n7_ n8_ n9_ n10_ n11_ n12_ n13_ n14_ n15_ n16_ n17_ n18_; clear hb hbox hg; have hnb237 := NB523_397.out; have hnc237 := NB397_523.out; have hnb238 := NB523_456.out; have hnc238 := NB456_523.out; have hnb239 := NB523_494.out; have hnc239 := NB494_523.out; have hnb240 := NB523_500.out; have hnc240 := NB500_523.out; have hnb241 := NB523_517.out; have hnc241 := NB517_523.out; have hcz242_0 : w236.cell? ⟨gb523, 0, none⟩ = some (.int .i64 0) := (blk_cell BK523.out 0).trans rfl; have hcz242_1 : w236.cell? ⟨gb523, 1, none⟩ = some (.int .i64 0) := (blk_cell BK523.out 1).trans rfl; have hcz242_2 : w236.cell? ⟨gb523, 2, none⟩ = some (.int .i64 0) := (blk_cell BK523.out 2).trans rfl; have hcz242_3 : w236.cell? ⟨gb523, 3, none⟩ = some (.int .i64 0) := (blk_cell BK523.out 3).trans rfl; have hfz242_0 := blk_frozen BK523.out 0; have hfz242_1 := blk_frozen BK523.out 1; have hfz242_2 := blk_frozen BK523.out 2; have hfz242_3 := blk_frozen BK523.out 3) | ((with_reducible refine gate_callee (f := 15) rfl ?_); refine goesL_ (some 607) rfl rfl Tryz.func15 (by kernel_rfl) rfl #[.int .i64 t457, .int .i64 t458] rfl (by (try simp only [List.map_toArray, List.map_cons, List.map_nil]); first | done | rfl | (simp only [List.length_drop, List.length_take]; rfl)) ?_; (with_reducible refine (laws_yLow.calls kj123 t457 t458 true _ A203.out).mono ?_); rintro e w' ⟨rfl, ⟨nd, rfl⟩⟩; refine ⟨_, rfl, ?_⟩) | (go_at_call 15; (with_reducible refine (laws_yLow.calls kj123 t457 t458 true _ A203.out).mono ?_); rintro e w' ⟨rfl, ⟨nd, rfl⟩⟩) | (go_at_call 15; (with_reducible refine (laws_yLow.calls kj123 t459 t460 true _ A205.out).mono ?_); rintro e w' ⟨rfl, ⟨nd, rfl⟩⟩; have hcz243_0 : w236.cell? ⟨gb456, 0, none⟩ = some (.int .i64 t452) := (blk_cell BK456.out 0).trans rfl; have hcz243_1 : w236.cell? ⟨gb456, 1, none⟩ = some (.int .i64 t453) := (blk_cell BK456.out 1).trans rfl; have hcz243_2 : w236.cell? ⟨gb456, 2, none⟩ = some (.int .i64 t454) := (blk_cell BK456.out 2).trans rfl; have hcz243_3 : w236.cell? ⟨gb456, 3, none⟩ = some (.int .i64 t455) := (blk_cell BK456.out 3).trans rfl; have hfz243_0 := blk_frozen BK456.out 0; have hfz243_1 := blk_frozen BK456.out 1; have hfz243_2 := blk_frozen BK456.out 2; have hfz243_3 := blk_frozen BK456.out 3; have hcz244_0 : w236.cell? ⟨gb517, 0, none⟩ = some (.int .i64 t512) := (blk_cell BK517.out 0).trans rfl; have hcz244_1 : w236.cell? ⟨gb517, 1, none⟩ = some (.int .i64 t513) := (blk_cell BK517.out 1).trans rfl; have hcz244_2 : w236.cell? ⟨gb517, 2, none⟩ = some (.int .i64 t514) := (blk_cell BK517.out 2).trans rfl; have hcz244_3 : w236.cell? ⟨gb517, 3, none⟩ = some (.int .i64 t515) := (blk_cell BK517.out 3).trans rfl; have hfz244_0 := blk_frozen BK517.out 0; have hfz244_1 := blk_frozen BK517.out 1; have hfz244_2 := blk_frozen BK517.out 2; have hfz244_3 := blk_frozen BK517.out 3))
                        go_ret
                        exact ⟨by first | rfl | (simp [errW_none, errW_some] <;> rfl) | (simp [*, errW_none, errW_some] <;> rfl), by repeat (first | (with_reducible first | exact HB.out | apply below_alloc | apply pw_below_drewN | apply below_drew1 | refine below_set ?_ GE397.out | refine below_set ?_ GE456.out | refine below_set ?_ GE494.out | refine below_set ?_ GE500.out | refine below_set ?_ GE517.out | refine below_set ?_ GE523.out) | exact HB.out)⟩
                       ·
                        rw [if_neg c217] at H
                        have c217b0 : ((wrap64 ((wrap64 (t479 * t482)) + (wrap64 (t481 * t480)))) == (wrap64 ((wrap64 (t452 * t480)) * t482))) = false := beq_eq_false_iff_ne.mpr c217
                        have c217b1 : ((wrap64 ((wrap64 (t479 * t482)) + (wrap64 (t481 * t480)))) != (wrap64 ((wrap64 (t452 * t480)) * t482))) = true := bne_iff_ne.mpr c217
                        exact absurd ((Option.some.inj H).trans HRT.out) (by decide)
                      ·
                       rw [if_neg c216] at H
                       have c216b0 : ((wrap64 (t467 * (wrap64 (t453 + t454)))) == (wrap64 (t468 * t452))) = false := beq_eq_false_iff_ne.mpr c216
                       have c216b1 : ((wrap64 (t467 * (wrap64 (t453 + t454)))) != (wrap64 (t468 * t452))) = true := bne_iff_ne.mpr c216
                       exact absurd ((Option.some.inj H).trans HRT.out) (by decide)
                     ·
                      rw [if_neg c215] at H
                      have c215b0 : ((wrap64 (t473 * t468)) == (wrap64 ((wrap64 (t474 * t467)) * t455))) = false := beq_eq_false_iff_ne.mpr c215
                      have c215b1 : ((wrap64 (t473 * t468)) != (wrap64 ((wrap64 (t474 * t467)) * t455))) = true := bne_iff_ne.mpr c215
                      exact absurd ((Option.some.inj H).trans HRT.out) (by decide)
                   ·
                    replace c213 := Bool.eq_false_iff.mpr c213
                    subst c213
                    rw [if_neg (show ¬ (false = true) by decide)] at H
                    exact absurd ((Option.some.inj H).trans HRT.out) (by decide)
                 ·
                  replace c211 := Bool.eq_false_iff.mpr c211
                  subst c211
                  rw [if_neg (show ¬ (false = true) by decide)] at H
                  exact absurd ((Option.some.inj H).trans HRT.out) (by decide)
                ·
                 rw [if_neg c210] at H
                 have c210b0 : ((wrap64 ((wrap64 (t509 * t460)) * t507)) == (wrap64 ((wrap64 (t510 * t506)) * t459))) = false := beq_eq_false_iff_ne.mpr c210
                 have c210b1 : ((wrap64 ((wrap64 (t509 * t460)) * t507)) != (wrap64 ((wrap64 (t510 * t506)) * t459))) = true := bne_iff_ne.mpr c210
                 exact absurd ((Option.some.inj H).trans HRT.out) (by decide)
               ·
                replace c209 := Bool.eq_false_iff.mpr c209
                subst c209
                rw [if_neg (show ¬ (false = true) by decide)] at H
                exact absurd ((Option.some.inj H).trans HRT.out) (by decide)
              ·
               rw [if_neg c208] at H
               have c208b0 : ((wrap64 (t506 * t458)) == (wrap64 ((wrap64 (t507 * t457)) * t452))) = false := beq_eq_false_iff_ne.mpr c208
               have c208b1 : ((wrap64 (t506 * t458)) != (wrap64 ((wrap64 (t507 * t457)) * t452))) = true := bne_iff_ne.mpr c208
               exact absurd ((Option.some.inj H).trans HRT.out) (by decide)
             ·
              replace c207 := Bool.eq_false_iff.mpr c207
              subst c207
              rw [if_neg (show ¬ (false = true) by decide)] at H
              exact absurd ((Option.some.inj H).trans HRT.out) (by decide)
            ·
             replace c206 := Bool.eq_false_iff.mpr c206
             subst c206
             rw [if_neg (show ¬ (false = true) by decide)] at H
             exact absurd ((Option.some.inj H).trans HRT.out) (by decide)
           ·
            replace c204 := Bool.eq_false_iff.mpr c204
            subst c204
            rw [if_neg (show ¬ (false = true) by decide)] at H
            exact absurd ((Option.some.inj H).trans HRT.out) (by decide)
          ·
           replace c198 := Bool.eq_false_iff.mpr c198
           subst c198
           rw [if_neg (show ¬ (false = true) by decide)] at H
           obtain rfl := Option.some.inj H
           go_wp2
           go_ret
           exact ⟨by first | rfl | (simp [errW_none, errW_some] <;> rfl) | (simp [*, errW_none, errW_some] <;> rfl), by repeat (first | (with_reducible first | exact HB.out | apply below_alloc | apply pw_below_drewN | apply below_drew1 | refine below_set ?_ GE397.out | refine below_set ?_ GE456.out | refine below_set ?_ GE494.out | refine below_set ?_ GE500.out) | exact HB.out)⟩

end Go.Proofs.YtajlcomankjcjabGreatDoor.PFnDogsTurn
