-- Laid by a program of this session's (wip/gen/printp.sh): the functions that the law reaches, each with its walk.
import Derived.Test.YtajlcomankjcjaaDoorPFnDogsTurnOfAllx0
import Derived.Test.YtajlcomankjcjaaDoorPFnDogsTurnOfAllx1
import Derived.Test.YtajlcomankjcjaaDoorPFnDogsTurnOfAllx2
import Derived.Test.YtajlcomankjcjaaDoorPFnDogsTurnOfAllx5
import Derived.Test.YtajlcomankjcjaaDoorPFnDogsTurnOfAllx6
import Derived.Test.YtajlcomankjcjaaDoorPFnDogsTurnOfAllx7
import Derived.Test.YtajlcomankjcjaaDoorPFnDogsTurnOfAllx8
import Derived.Test.YtajlcomankjcjaaDoorPFnDogsTurnOfAllx9
import Derived.Test.YtajlcomankjcjaaDoorPFnDogsTurnOfAllx10
import Derived.Test.YtajlcomankjcjaaDoorPFnDogsTurnOfAllx11
import Derived.Test.YtajlcomankjcjaaDoorPFnDogsTurnOfAllx12
namespace Go.Proofs.YtajlcomankjcjaaDoor.PFnDogsTurnOfAll
open Go.RowKit Go.Proofs.YtajlcomankjcjaaDoorW.PrintWords Go.Proofs.YtajlcomankjcjaaDoorW.PrintLast Go.Proofs.YtajlcomankjcjaaDoorW.PrintMore
attribute [local go_sem] max2_int min2_int max_two min_two max_three min_three max_four min_four   -- for this text's walks alone
set_option linter.unusedVariables false
set_option linter.unusedSimpArgs false

attribute [local go_sem high] eqA23
set_option maxHeartbeats 80000000 in
set_option maxRecDepth 100000 in
theorem laws_FnDogsTurnOfAll.case6 (k : Nat) (a0_0 : Int) (a0_1 : Int) (a0_2 : Int) (a0_3 : Int) (a1 : Int) (a2_0 : Int) (a2_1 : Int) (a2_2 : Int) (a2_3 : Int) (r : Bool) (w : World) : (laws_FnDogsTurnOfAll.part k a0_0 a0_1 a0_2 a0_3 a1 a2_0 a2_1 a2_2 a2_3 r w).2.2.2.2.2.1 := by
       intro hL0 HRT hu23 t307 t310 A4 t311 t314 A5 t315 t316 t317 A6 t318 t319 t320 A7 t321 t322 t323 A8 t324 t325 t326 A9 z1_ gb305 w11 GW305 GE305 gb306 w12 GW306 GE306 NB305_306 NB306_305 hnb13 hnc13 hcz14_0 hcz14_1 hcz14_2 hcz14_3 hfz14_0 hfz14_1 hfz14_2 hfz14_3 w15 v308 hcz16_0 hcz16_1 hcz16_2 hcz16_3 hfz16_0 hfz16_1 hfz16_2 hfz16_3 w17 v312 hcz18_0 hcz18_1 hcz18_2 hcz18_3 hfz18_0 hfz18_1 hfz18_2 hfz18_3 w19 hcz20_0 hcz20_1 hcz20_2 hcz20_3 hfz20_0 hfz20_1 hfz20_2 hfz20_3 w21 hcz22_0 hcz22_1 hcz22_2 hcz22_3 hfz22_0 hfz22_1 hfz22_2 hfz22_3 w23 hcz24_0 hcz24_1 hcz24_2 hcz24_3 hfz24_0 hfz24_1 hfz24_2 hfz24_3 w25 HO309 HO313 z2_ z3_ z4_ z5_ u120 u121 u122 u123 u124 u125 u126 u127 u128 u129 u130 u131 u132 u133 u134 u135 u136 u137 u138 u139 u140 u141 u142 u143 u144 u145 u146 u147 u148 u149 u150 u151 u152 u153 u154 u155 u156 u157 u158 u159 u160 u161 u162 u163 u164 u165 u166 u167 u168 u169 u170 u171 u172 u173 u174 u175 u176 u177 u178 u179 u180 u181 u182 HO_7 z6_ z7_ z8_ kj9 HJ9 wc u6 u23 u24 u25 u26 u27 u28 u29 u185 u186 u187 u188 u189 u190 u191 u192 u193 u194 u195 u196 u197 u198 u199 u200 u201 u202 u203 u204 u205 u206 u207 u208 u209 u210 u211 u212 u213 u214 u215 u216 u217 u218 u219 u220 u221 u222 u223 u224 u225 u226 u227 u228 u229 u230 u231 u232 u233 u234 u235 u236 u237 u238 u239 u240 u241 u242 u243 u244 u245 u246 u247 u248 u249 u250 u251 u252 u253 u254 u255 u256 u257 u258 u259 u260 u261 u262 u263 u264 u265 u266 u267 u268 u269 u270 u271 u272 u273 u274 u275 u276 u277 u278 u279 u280 u281 u282 u283 u284 u285 u286 u287 u288 u289 u290 u291 u292 u293 u294 u295 u296 u297 u298 u299 u300 u301 u302 u303 u304 u305 u306 u307 u308 u309 u310 u311 u312 u313 u314 u315 u316 u317 u318 u319 u320 u321 u322 u323 u324 u325 u326 u327 u328 u329 u330 u331 u332 u333 u334 u335 u336 u337 u338 u339 u340 u341 u342 u343 u344 u345 u346 u347 u348 u349 u350 u351 u352 u353 u354 u355 u356 u357 u358 u359 u360 u361 u362 u363 u364 u365 kj53 HJ53 t361 t362 t363 t364 t365 A111 t366 t367 t368 t369 t370 A112 t371 t372 t373 A113 t374 t375 t376 A114 t377 t378 t379 A115 t380 t381 t382 A116 t383 t384 t385 t386 t387 A117 t388 t389 t390 t391 t392 A118 t393 t394 t395 t396 t397 A119 t399 t400 t401 t402 t403 A120 t405 t406 A121 t407 t408 A122 HC123 hnb124 hnc124 hcz125_0 hcz125_1 hcz125_2 hcz125_3 hfz125_0 hfz125_1 hfz125_2 hfz125_3 w126 hcz127_0 hcz127_1 hcz127_2 hcz127_3 hfz127_0 hfz127_1 hfz127_2 hfz127_3 w128 hcz129_0 hcz129_1 hcz129_2 hcz129_3 hfz129_0 hfz129_1 hfz129_2 hfz129_3 w130 hcz131_0 hcz131_1 hcz131_2 hcz131_3 hfz131_0 hfz131_1 hfz131_2 hfz131_3 w132 hcz133_0 hcz133_1 hcz133_2 hcz133_3 hfz133_0 hfz133_1 hfz133_2 hfz133_3 w134 hcz135_0 hcz135_1 hcz135_2 hcz135_3 hfz135_0 hfz135_1 hfz135_2 hfz135_3 w136 hcz137_0 hcz137_1 hcz137_2 hcz137_3 hfz137_0 hfz137_1 hfz137_2 hfz137_3 w138 hcz139_0 hcz139_1 hcz139_2 hcz139_3 hfz139_0 hfz139_1 hfz139_2 hfz139_3 w140 hcz141_0 hcz141_1 hcz141_2 hcz141_3 hfz141_0 hfz141_1 hfz141_2 hfz141_3 w142 gb398 w143 GW398 GE398 NB305_398 NB398_305 NB306_398 NB398_306 hnb144 hnc144 hnb145 hnc145 hcz146_0 hcz146_1 hcz146_2 hcz146_3 hfz146_0 hfz146_1 hfz146_2 hfz146_3 hcz147_0 hcz147_1 hcz147_2 hcz147_3 hfz147_0 hfz147_1 hfz147_2 hfz147_3 w148 gb404 w149 GW404 GE404 NB305_404 NB404_305 NB306_404 NB404_306 NB398_404 NB404_398 hnb150 hnc150 hnb151 hnc151 hnb152 hnc152 hcz153_0 hcz153_1 hcz153_2 hcz153_3 hfz153_0 hfz153_1 hfz153_2 hfz153_3 hcz154_0 hcz154_1 hcz154_2 hcz154_3 hfz154_0 hfz154_1 hfz154_2 hfz154_3 w155 hcz156_0 hcz156_1 hcz156_2 hcz156_3 hfz156_0 hfz156_1 hfz156_2 hfz156_3 w157 BK305 BK306 BK398 BK404 HB z9_ z10_ z11_ z12_ z13_ z14_ z15_ z16_
       have H := HC123.out
       clear HC123
       by_cases c158 : (t365 != t370) = true
       ·
        rw [if_pos c158] at H
        have c158b0 : (t365 != t370) = true := c158
        (try (have c158b1 : decide (t365 = t370) = false := by simpa using c158))
        (try (have c158b2 : (t365 == t370) = false := by simpa using c158))
        (try (have c158b3 : ¬ (t365 = t370) := by simpa using c158))
        clear c158
        (first | rw [c158b0] | (simp only [i64_w, i32_w]; rw [c158b0]) | skip)
        exact absurd (H.trans (congrArg some HRT.out)) (by cases kj53 <;> simp [laws_FnDogsTurnOfAll.j6])
       ·
        rw [if_neg c158] at H
        have c158b0 : (t365 != t370) = false := by simpa using c158
        (try (have c158b1 : decide (t365 = t370) = true := by simpa using c158))
        (try (have c158b2 : (t365 == t370) = true := by simpa using c158))
        clear c158
        (first | rw [c158b0] | (simp only [i64_w, i32_w]; rw [c158b0]) | skip)
        by_cases c159 : t361 = t366
        ·
         rw [if_pos c159] at H
         have c159b0 : (t361 == t366) = true := beq_iff_eq.mpr c159
         have c159b1 : (t361 != t366) = false := bne_eq_false_iff_eq.mpr c159
         clear c159
         by_cases c160 : t362 = t367
         ·
          rw [if_pos c160] at H
          have c160b0 : (t362 == t367) = true := beq_iff_eq.mpr c160
          have c160b1 : (t362 != t367) = false := bne_eq_false_iff_eq.mpr c160
          clear c160
          by_cases c161 : t363 = t368
          ·
           rw [if_pos c161] at H
           have c161b0 : (t363 == t368) = true := beq_iff_eq.mpr c161
           have c161b1 : (t363 != t368) = false := bne_eq_false_iff_eq.mpr c161
           clear c161
           by_cases c162 : t364 = t369
           ·
            rw [if_pos c162] at H
            have c162b0 : (t364 == t369) = true := beq_iff_eq.mpr c162
            have c162b1 : (t364 != t369) = false := bne_eq_false_iff_eq.mpr c162
            clear c162
            by_cases c163 : (t373 != t376) = true
            ·
             rw [if_pos c163] at H
             have c163b0 : (t373 != t376) = true := c163
             (try (have c163b1 : decide (t373 = t376) = false := by simpa using c163))
             (try (have c163b2 : (t373 == t376) = false := by simpa using c163))
             (try (have c163b3 : ¬ (t373 = t376) := by simpa using c163))
             clear c163
             exact absurd (H.trans (congrArg some HRT.out)) (by cases kj53 <;> simp [laws_FnDogsTurnOfAll.j6])
            ·
             rw [if_neg c163] at H
             have c163b0 : (t373 != t376) = false := by simpa using c163
             (try (have c163b1 : decide (t373 = t376) = true := by simpa using c163))
             (try (have c163b2 : (t373 == t376) = true := by simpa using c163))
             clear c163
             by_cases c164 : t371 = t374
             ·
              rw [if_pos c164] at H
              have c164b0 : (t371 == t374) = true := beq_iff_eq.mpr c164
              have c164b1 : (t371 != t374) = false := bne_eq_false_iff_eq.mpr c164
              clear c164
              by_cases c165 : t372 = t375
              ·
               rw [if_pos c165] at H
               have c165b0 : (t372 == t375) = true := beq_iff_eq.mpr c165
               have c165b1 : (t372 != t375) = false := bne_eq_false_iff_eq.mpr c165
               clear c165
               by_cases c166 : (t379 != t382) = true
               ·
                rw [if_pos c166] at H
                have c166b0 : (t379 != t382) = true := c166
                (try (have c166b1 : decide (t379 = t382) = false := by simpa using c166))
                (try (have c166b2 : (t379 == t382) = false := by simpa using c166))
                (try (have c166b3 : ¬ (t379 = t382) := by simpa using c166))
                clear c166
                exact absurd (H.trans (congrArg some HRT.out)) (by cases kj53 <;> simp [laws_FnDogsTurnOfAll.j6])
               ·
                rw [if_neg c166] at H
                have c166b0 : (t379 != t382) = false := by simpa using c166
                (try (have c166b1 : decide (t379 = t382) = true := by simpa using c166))
                (try (have c166b2 : (t379 == t382) = true := by simpa using c166))
                clear c166
                by_cases c167 : t377 = t380
                ·
                 rw [if_pos c167] at H
                 have c167b0 : (t377 == t380) = true := beq_iff_eq.mpr c167
                 have c167b1 : (t377 != t380) = false := bne_eq_false_iff_eq.mpr c167
                 clear c167
                 by_cases c168 : t378 = t381
                 ·
                  rw [if_pos c168] at H
                  have c168b0 : (t378 == t381) = true := beq_iff_eq.mpr c168
                  have c168b1 : (t378 != t381) = false := bne_eq_false_iff_eq.mpr c168
                  clear c168
                  by_cases c169 : (t387 != t392) = true
                  ·
                   rw [if_pos c169] at H
                   have c169b0 : (t387 != t392) = true := c169
                   (try (have c169b1 : decide (t387 = t392) = false := by simpa using c169))
                   (try (have c169b2 : (t387 == t392) = false := by simpa using c169))
                   (try (have c169b3 : ¬ (t387 = t392) := by simpa using c169))
                   clear c169
                   exact absurd (H.trans (congrArg some HRT.out)) (by cases kj53 <;> simp [laws_FnDogsTurnOfAll.j6])
                  ·
                   rw [if_neg c169] at H
                   have c169b0 : (t387 != t392) = false := by simpa using c169
                   (try (have c169b1 : decide (t387 = t392) = true := by simpa using c169))
                   (try (have c169b2 : (t387 == t392) = true := by simpa using c169))
                   clear c169
                   by_cases c170 : t383 = t388
                   ·
                    rw [if_pos c170] at H
                    have c170b0 : (t383 == t388) = true := beq_iff_eq.mpr c170
                    have c170b1 : (t383 != t388) = false := bne_eq_false_iff_eq.mpr c170
                    clear c170
                    by_cases c171 : t384 = t389
                    ·
                     rw [if_pos c171] at H
                     have c171b0 : (t384 == t389) = true := beq_iff_eq.mpr c171
                     have c171b1 : (t384 != t389) = false := bne_eq_false_iff_eq.mpr c171
                     clear c171
                     by_cases c172 : t385 = t390
                     ·
                      rw [if_pos c172] at H
                      have c172b0 : (t385 == t390) = true := beq_iff_eq.mpr c172
                      have c172b1 : (t385 != t390) = false := bne_eq_false_iff_eq.mpr c172
                      clear c172
                      by_cases c173 : t386 = t391
                      ·
                       rw [if_pos c173] at H
                       have c173b0 : (t386 == t391) = true := beq_iff_eq.mpr c173
                       have c173b1 : (t386 != t391) = false := bne_eq_false_iff_eq.mpr c173
                       clear c173
                       by_cases c174 : (t397 != t403) = true
                       ·
                        rw [if_pos c174] at H
                        have c174b0 : (t397 != t403) = true := c174
                        (try (have c174b1 : decide (t397 = t403) = false := by simpa using c174))
                        (try (have c174b2 : (t397 == t403) = false := by simpa using c174))
                        (try (have c174b3 : ¬ (t397 = t403) := by simpa using c174))
                        clear c174
                        exact absurd (H.trans (congrArg some HRT.out)) (by cases kj53 <;> simp [laws_FnDogsTurnOfAll.j6])
                       ·
                        rw [if_neg c174] at H
                        have c174b0 : (t397 != t403) = false := by simpa using c174
                        (try (have c174b1 : decide (t397 = t403) = true := by simpa using c174))
                        (try (have c174b2 : (t397 == t403) = true := by simpa using c174))
                        clear c174
                        by_cases c175 : (!(t393 == t399) || (!(t394 == t400) || (!(t395 == t401) || (!(t396 == t402))))) = true
                        ·
                         rw [if_pos c175] at H
                         have c175b0 : (!(t393 == t399) || (!(t394 == t400) || (!(t395 == t401) || (!(t396 == t402))))) = true := c175
                         clear c175
                         exact absurd (H.trans (congrArg some HRT.out)) (by cases kj53 <;> simp [laws_FnDogsTurnOfAll.j6])
                        ·
                         rw [if_neg c175] at H
                         have c175b0 : (!(t393 == t399) || (!(t394 == t400) || (!(t395 == t401) || (!(t396 == t402))))) = false := by simpa using c175
                         clear c175
                         by_cases c176 : (t406 != t408) = true
                         ·
                          rw [if_pos c176] at H
                          have c176b0 : (t406 != t408) = true := c176
                          (try (have c176b1 : decide (t406 = t408) = false := by simpa using c176))
                          (try (have c176b2 : (t406 == t408) = false := by simpa using c176))
                          (try (have c176b3 : ¬ (t406 = t408) := by simpa using c176))
                          clear c176
                          exact absurd (H.trans (congrArg some HRT.out)) (by cases kj53 <;> simp [laws_FnDogsTurnOfAll.j6])
                         ·
                          rw [if_neg c176] at H
                          have c176b0 : (t406 != t408) = false := by simpa using c176
                          (try (have c176b1 : decide (t406 = t408) = true := by simpa using c176))
                          (try (have c176b2 : (t406 == t408) = true := by simpa using c176))
                          clear c176
                          by_cases c177 : t405.toList = t407.toList
                          ·
                           rw [if_pos c177] at H
                           have c177b0 : (t405.toList == t407.toList) = true := beq_iff_eq.mpr c177
                           have c177b1 : (t405.toList != t407.toList) = false := bne_eq_false_iff_eq.mpr c177
                           clear c177
                           replace H := Option.bind_eq_some_iff.mp H
                           obtain ⟨t409, A1780, H⟩ := H
                           (try dsimp only at H)
                           have A178 := Aside0.mk A1780
                           clear A1780
                           by_cases c179 : (t365 != t409) = true
                           ·
                            rw [if_pos c179] at H
                            have c179b0 : (t365 != t409) = true := c179
                            (try (have c179b1 : decide (t365 = t409) = false := by simpa using c179))
                            (try (have c179b2 : (t365 == t409) = false := by simpa using c179))
                            (try (have c179b3 : ¬ (t365 = t409) := by simpa using c179))
                            clear c179
                            exact absurd (H.trans (congrArg some HRT.out)) (by cases kj53 <;> simp [laws_FnDogsTurnOfAll.j6])
                           ·
                            rw [if_neg c179] at H
                            have c179b0 : (t365 != t409) = false := by simpa using c179
                            (try (have c179b1 : decide (t365 = t409) = true := by simpa using c179))
                            (try (have c179b2 : (t365 == t409) = true := by simpa using c179))
                            clear c179
                            by_cases c180 : (t373 != t365) = true
                            ·
                             rw [if_pos c180] at H
                             have c180b0 : (t373 != t365) = true := c180
                             (try (have c180b1 : decide (t373 = t365) = false := by simpa using c180))
                             (try (have c180b2 : (t373 == t365) = false := by simpa using c180))
                             (try (have c180b3 : ¬ (t373 = t365) := by simpa using c180))
                             clear c180
                             exact absurd (H.trans (congrArg some HRT.out)) (by cases kj53 <;> simp [laws_FnDogsTurnOfAll.j6])
                            ·
                             rw [if_neg c180] at H
                             have c180b0 : (t373 != t365) = false := by simpa using c180
                             (try (have c180b1 : decide (t373 = t365) = true := by simpa using c180))
                             (try (have c180b2 : (t373 == t365) = true := by simpa using c180))
                             clear c180
                             by_cases c181 : (t379 != t365) = true
                             ·
                              rw [if_pos c181] at H
                              have c181b0 : (t379 != t365) = true := c181
                              (try (have c181b1 : decide (t379 = t365) = false := by simpa using c181))
                              (try (have c181b2 : (t379 == t365) = false := by simpa using c181))
                              (try (have c181b3 : ¬ (t379 = t365) := by simpa using c181))
                              clear c181
                              exact absurd (H.trans (congrArg some HRT.out)) (by cases kj53 <;> simp [laws_FnDogsTurnOfAll.j6])
                             ·
                              rw [if_neg c181] at H
                              have c181b0 : (t379 != t365) = false := by simpa using c181
                              (try (have c181b1 : decide (t379 = t365) = true := by simpa using c181))
                              (try (have c181b2 : (t379 == t365) = true := by simpa using c181))
                              clear c181
                              by_cases c182 : (t387 != t365) = true
                              ·
                               rw [if_pos c182] at H
                               have c182b0 : (t387 != t365) = true := c182
                               (try (have c182b1 : decide (t387 = t365) = false := by simpa using c182))
                               (try (have c182b2 : (t387 == t365) = false := by simpa using c182))
                               (try (have c182b3 : ¬ (t387 = t365) := by simpa using c182))
                               clear c182
                               exact absurd (H.trans (congrArg some HRT.out)) (by cases kj53 <;> simp [laws_FnDogsTurnOfAll.j6])
                              ·
                               rw [if_neg c182] at H
                               have c182b0 : (t387 != t365) = false := by simpa using c182
                               (try (have c182b1 : decide (t387 = t365) = true := by simpa using c182))
                               (try (have c182b2 : (t387 == t365) = true := by simpa using c182))
                               clear c182
                               by_cases c183 : (t397 != t365) = true
                               ·
                                rw [if_pos c183] at H
                                have c183b0 : (t397 != t365) = true := c183
                                (try (have c183b1 : decide (t397 = t365) = false := by simpa using c183))
                                (try (have c183b2 : (t397 == t365) = false := by simpa using c183))
                                (try (have c183b3 : ¬ (t397 = t365) := by simpa using c183))
                                clear c183
                                exact absurd (H.trans (congrArg some HRT.out)) (by cases kj53 <;> simp [laws_FnDogsTurnOfAll.j6])
                               ·
                                rw [if_neg c183] at H
                                have c183b0 : (t397 != t365) = false := by simpa using c183
                                (try (have c183b1 : decide (t397 = t365) = true := by simpa using c183))
                                (try (have c183b2 : (t397 == t365) = true := by simpa using c183))
                                clear c183
                                have H' := Aside0.mk H
                                clear H
                                have hnb184 := NB398_305.out
                                have hnc184 := NB305_398.out
                                have hnb185 := NB398_306.out
                                have hnc185 := NB306_398.out
                                have hnb186 := NB398_404.out
                                have hnc186 := NB404_398.out
                                have hcz187_0 : w157.cell? ⟨gb398, 0, none⟩ = some (.int .i64 t393) := (blk_cell BK398.out 0).trans rfl
                                have hcz187_1 : w157.cell? ⟨gb398, 1, none⟩ = some (.int .i64 t394) := (blk_cell BK398.out 1).trans rfl
                                have hcz187_2 : w157.cell? ⟨gb398, 2, none⟩ = some (.int .i64 t395) := (blk_cell BK398.out 2).trans rfl
                                have hcz187_3 : w157.cell? ⟨gb398, 3, none⟩ = some (.int .i64 t396) := (blk_cell BK398.out 3).trans rfl
                                have hfz187_0 := blk_frozen BK398.out 0
                                have hfz187_1 := blk_frozen BK398.out 1
                                have hfz187_2 := blk_frozen BK398.out 2
                                have hfz187_3 := blk_frozen BK398.out 3
                                have hnb188 := NB404_305.out
                                have hnc188 := NB305_404.out
                                have hnb189 := NB404_306.out
                                have hnc189 := NB306_404.out
                                have hcz190_0 : w157.cell? ⟨gb404, 0, none⟩ = some (.int .i64 t399) := (blk_cell BK404.out 0).trans rfl
                                have hcz190_1 : w157.cell? ⟨gb404, 1, none⟩ = some (.int .i64 t400) := (blk_cell BK404.out 1).trans rfl
                                have hcz190_2 : w157.cell? ⟨gb404, 2, none⟩ = some (.int .i64 t401) := (blk_cell BK404.out 2).trans rfl
                                have hcz190_3 : w157.cell? ⟨gb404, 3, none⟩ = some (.int .i64 t402) := (blk_cell BK404.out 3).trans rfl
                                have hfz190_0 := blk_frozen BK404.out 0
                                have hfz190_1 := blk_frozen BK404.out 1
                                have hfz190_2 := blk_frozen BK404.out 2
                                have hfz190_3 := blk_frozen BK404.out 3
                                have hnb191 := NB306_305.out
                                have hnc191 := NB305_306.out
                                have hcz192_0 : w157.cell? ⟨gb306, 0, none⟩ = some (.int .i64 a2_0) := (blk_cell BK306.out 0).trans rfl
                                have hcz192_1 : w157.cell? ⟨gb306, 1, none⟩ = some (.int .i64 a2_1) := (blk_cell BK306.out 1).trans rfl
                                have hcz192_2 : w157.cell? ⟨gb306, 2, none⟩ = some (.int .i64 a2_2) := (blk_cell BK306.out 2).trans rfl
                                have hcz192_3 : w157.cell? ⟨gb306, 3, none⟩ = some (.int .i64 a2_3) := (blk_cell BK306.out 3).trans rfl
                                have hfz192_0 := blk_frozen BK306.out 0
                                have hfz192_1 := blk_frozen BK306.out 1
                                have hfz192_2 := blk_frozen BK306.out 2
                                have hfz192_3 := blk_frozen BK306.out 3
                                go_wp2_with (first | (go_at_call 11; (with_reducible refine (impl_IsChase.calls a2_0 a2_1 a2_2 a2_3 t409 _ A178.out).mono ?_); rintro e w193 ⟨rfl, hb⟩; have n0_ := Aside0.mk (blk_below (g := gb305) (o := .cells #[.int .i64 a0_0, .int .i64 a0_1, .int .i64 a0_2, .int .i64 a0_3] 23 (0, 0)) bk_ hb); have n1_ := Aside0.mk (blk_below (g := gb306) (o := .cells #[.int .i64 a2_0, .int .i64 a2_1, .int .i64 a2_2, .int .i64 a2_3] 23 (0, 0)) bk_ hb); have n2_ := Aside0.mk (blk_below (g := gb398) (o := .cells #[.int .i64 t393, .int .i64 t394, .int .i64 t395, .int .i64 t396] 23 (0, 0)) bk_ hb); have n3_ := Aside0.mk (blk_below (g := gb404) (o := .cells #[.int .i64 t399, .int .i64 t400, .int .i64 t401, .int .i64 t402] 23 (0, 0)) bk_ hb); have n4_ := Aside0.mk (below_step bw_ hb); clear BK305; clear BK306; clear BK398; clear BK404; clear HB; have BK305 := n0_; have BK306 := n1_; have BK398 := n2_; have BK404 := n3_; have HB := n4_; clear n0_ n1_ n2_ n3_ n4_; (try clear hb); (try clear hb2); (try clear hk); (try clear hi)))
                                go_meet
                                case rel => exact ⟨_, ((t406 != t365)), (by first | rfl | (simp; done) | (simp [*]; done)), H', ⟨by have := HJ9.out; have := HJ53.out; first | omega | exact Nat.le_refl _⟩, ⟨bk_⟩, ⟨bk_⟩, ⟨bk_⟩, ⟨bk_⟩, ⟨bw_⟩⟩
                          ·
                           rw [if_neg c177] at H
                           have c177b0 : (t405.toList == t407.toList) = false := beq_eq_false_iff_ne.mpr c177
                           have c177b1 : (t405.toList != t407.toList) = true := bne_iff_ne.mpr c177
                           exact absurd (H.trans (congrArg some HRT.out)) (by cases kj53 <;> simp [laws_FnDogsTurnOfAll.j6])
                      ·
                       rw [if_neg c173] at H
                       have c173b0 : (t386 == t391) = false := beq_eq_false_iff_ne.mpr c173
                       have c173b1 : (t386 != t391) = true := bne_iff_ne.mpr c173
                       exact absurd (H.trans (congrArg some HRT.out)) (by cases kj53 <;> simp [laws_FnDogsTurnOfAll.j6])
                     ·
                      rw [if_neg c172] at H
                      have c172b0 : (t385 == t390) = false := beq_eq_false_iff_ne.mpr c172
                      have c172b1 : (t385 != t390) = true := bne_iff_ne.mpr c172
                      exact absurd (H.trans (congrArg some HRT.out)) (by cases kj53 <;> simp [laws_FnDogsTurnOfAll.j6])
                    ·
                     rw [if_neg c171] at H
                     have c171b0 : (t384 == t389) = false := beq_eq_false_iff_ne.mpr c171
                     have c171b1 : (t384 != t389) = true := bne_iff_ne.mpr c171
                     exact absurd (H.trans (congrArg some HRT.out)) (by cases kj53 <;> simp [laws_FnDogsTurnOfAll.j6])
                   ·
                    rw [if_neg c170] at H
                    have c170b0 : (t383 == t388) = false := beq_eq_false_iff_ne.mpr c170
                    have c170b1 : (t383 != t388) = true := bne_iff_ne.mpr c170
                    exact absurd (H.trans (congrArg some HRT.out)) (by cases kj53 <;> simp [laws_FnDogsTurnOfAll.j6])
                 ·
                  rw [if_neg c168] at H
                  have c168b0 : (t378 == t381) = false := beq_eq_false_iff_ne.mpr c168
                  have c168b1 : (t378 != t381) = true := bne_iff_ne.mpr c168
                  exact absurd (H.trans (congrArg some HRT.out)) (by cases kj53 <;> simp [laws_FnDogsTurnOfAll.j6])
                ·
                 rw [if_neg c167] at H
                 have c167b0 : (t377 == t380) = false := beq_eq_false_iff_ne.mpr c167
                 have c167b1 : (t377 != t380) = true := bne_iff_ne.mpr c167
                 exact absurd (H.trans (congrArg some HRT.out)) (by cases kj53 <;> simp [laws_FnDogsTurnOfAll.j6])
              ·
               rw [if_neg c165] at H
               have c165b0 : (t372 == t375) = false := beq_eq_false_iff_ne.mpr c165
               have c165b1 : (t372 != t375) = true := bne_iff_ne.mpr c165
               exact absurd (H.trans (congrArg some HRT.out)) (by cases kj53 <;> simp [laws_FnDogsTurnOfAll.j6])
             ·
              rw [if_neg c164] at H
              have c164b0 : (t371 == t374) = false := beq_eq_false_iff_ne.mpr c164
              have c164b1 : (t371 != t374) = true := bne_iff_ne.mpr c164
              exact absurd (H.trans (congrArg some HRT.out)) (by cases kj53 <;> simp [laws_FnDogsTurnOfAll.j6])
           ·
            rw [if_neg c162] at H
            have c162b0 : (t364 == t369) = false := beq_eq_false_iff_ne.mpr c162
            have c162b1 : (t364 != t369) = true := bne_iff_ne.mpr c162
            exact absurd (H.trans (congrArg some HRT.out)) (by cases kj53 <;> simp [laws_FnDogsTurnOfAll.j6])
          ·
           rw [if_neg c161] at H
           have c161b0 : (t363 == t368) = false := beq_eq_false_iff_ne.mpr c161
           have c161b1 : (t363 != t368) = true := bne_iff_ne.mpr c161
           exact absurd (H.trans (congrArg some HRT.out)) (by cases kj53 <;> simp [laws_FnDogsTurnOfAll.j6])
         ·
          rw [if_neg c160] at H
          have c160b0 : (t362 == t367) = false := beq_eq_false_iff_ne.mpr c160
          have c160b1 : (t362 != t367) = true := bne_iff_ne.mpr c160
          exact absurd (H.trans (congrArg some HRT.out)) (by cases kj53 <;> simp [laws_FnDogsTurnOfAll.j6])
        ·
         rw [if_neg c159] at H
         have c159b0 : (t361 == t366) = false := beq_eq_false_iff_ne.mpr c159
         have c159b1 : (t361 != t366) = true := bne_iff_ne.mpr c159
         exact absurd (H.trans (congrArg some HRT.out)) (by cases kj53 <;> simp [laws_FnDogsTurnOfAll.j6])
end Go.Proofs.YtajlcomankjcjaaDoor.PFnDogsTurnOfAll
