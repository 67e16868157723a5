-- Laid by a program of this session's (wip/gen/printp.sh): the functions that the law reaches, each with its walk.
import Derived.Test.YtajlcomankjcjaaDoorPFnDogsTurnOfAllx0
import Derived.Test.YtajlcomankjcjaaDoorPFnDogsTurnOfAllx1
import Derived.Test.YtajlcomankjcjaaDoorPFnDogsTurnOfAllx2
import Derived.Test.YtajlcomankjcjaaDoorPFnDogsTurnOfAllx5
import Derived.Test.YtajlcomankjcjaaDoorPFnDogsTurnOfAllx6
import Derived.Test.YtajlcomankjcjaaDoorPFnDogsTurnOfAllx7
import Derived.Test.YtajlcomankjcjaaDoorPFnDogsTurnOfAllx8
import Derived.Test.YtajlcomankjcjaaDoorPFnDogsTurnOfAllx9
import Derived.Test.YtajlcomankjcjaaDoorPFnDogsTurnOfAllx10
import Derived.Test.YtajlcomankjcjaaDoorPFnDogsTurnOfAllx11
import Derived.Test.YtajlcomankjcjaaDoorPFnDogsTurnOfAllx12
namespace Go.Proofs.YtajlcomankjcjaaDoor.PFnDogsTurnOfAll
open Go.RowKit Go.Proofs.YtajlcomankjcjaaDoorW.PrintWords Go.Proofs.YtajlcomankjcjaaDoorW.PrintLast Go.Proofs.YtajlcomankjcjaaDoorW.PrintMore
attribute [local go_sem] max2_int min2_int max_two min_two max_three min_three max_four min_four   -- for this text's walks alone
set_option linter.unusedVariables false
set_option linter.unusedSimpArgs false

attribute [local go_sem high] eqA23
set_option maxHeartbeats 80000000 in
set_option maxRecDepth 100000 in
theorem laws_FnDogsTurnOfAll.case4 (k : Nat) (a0_0 : Int) (a0_1 : Int) (a0_2 : Int) (a0_3 : Int) (a1 : Int) (a2_0 : Int) (a2_1 : Int) (a2_2 : Int) (a2_3 : Int) (r : Bool) (w : World) : (laws_FnDogsTurnOfAll.part k a0_0 a0_1 a0_2 a0_3 a1 a2_0 a2_1 a2_2 a2_3 r w).2.2.2.1 := by
                       intro hL0 HRT hu23 t307 t311 t314 A5 t315 t316 t317 A6 t318 t319 t320 A7 t321 t322 t323 A8 t324 t325 t326 A9 z1_ gb305 w11 GW305 GE305 gb306 w12 GW306 GE306 NB305_306 NB306_305 hnb13 hnc13 hcz14_0 hcz14_1 hcz14_2 hcz14_3 hfz14_0 hfz14_1 hfz14_2 hfz14_3 w15 hcz16_0 hcz16_1 hcz16_2 hcz16_3 hfz16_0 hfz16_1 hfz16_2 hfz16_3 w17 v312 hcz18_0 hcz18_1 hcz18_2 hcz18_3 hfz18_0 hfz18_1 hfz18_2 hfz18_3 w19 hcz20_0 hcz20_1 hcz20_2 hcz20_3 hfz20_0 hfz20_1 hfz20_2 hfz20_3 w21 hcz22_0 hcz22_1 hcz22_2 hcz22_3 hfz22_0 hfz22_1 hfz22_2 hfz22_3 w23 hcz24_0 hcz24_1 hcz24_2 hcz24_3 hfz24_0 hfz24_1 hfz24_2 hfz24_3 w25 z2_ z3_ z4_ z5_ u120 u121 u122 u123 u124 u125 u126 u127 u128 u129 u130 u131 u132 u133 u134 u135 u136 u137 u138 u139 u140 u141 u142 u143 u144 u145 u146 u147 u148 u149 u150 u151 u152 u153 u154 u155 u156 u157 u158 u159 u160 u161 u162 u163 u164 u165 u166 u167 u168 u169 u170 u171 u172 u173 u174 u175 u176 u177 u178 u179 u180 u181 u182 z6_ z7_ z8_ kj9 HJ9 z9_ z10_ z11_ z12_ z13_ A4 z14_ u185 u186 u187 u188 u189 u190 u191 u192 u193 u194 u195 u196 u197 u198 u199 u200 u201 u202 u203 z15_ z16_ z17_ kj55 HJ55 co64 wr u6 u23 u24 u25 u26 u27 u28 u29 u208 u209 u210 u211 z18_ z19_ z20_ z21_ z22_ z23_ z24_ z25_ z26_ z27_ z28_ z29_ z30_ z31_ z32_ z33_ z34_ z35_ z36_ z37_ z38_ z39_ z40_ z41_ z42_ z43_ z44_ z45_ z46_ z47_ z48_ z49_ z50_ z51_ z52_ z53_ z54_ z55_ z56_ z57_ z58_ z59_ z60_ z61_ z62_ z63_ z64_ z65_ z66_ z67_ z68_ z69_ z70_ z71_ z72_ u267 u268 u269 u270 u271 u272 u273 u274 u275 u276 u277 u278 u279 u280 u281 u282 u283 u284 u285 u286 u287 u288 u289 u290 u291 u292 u293 u294 u295 u296 u297 u298 u299 u300 u301 u302 u303 u304 u305 u306 u307 u308 u309 u310 u311 u312 u313 u314 u315 u316 u317 u318 u319 u320 u321 u322 u323 u324 u325 u326 u327 u328 u329 u330 u331 u332 u333 u334 u335 u336 u337 u338 u339 u340 u341 u342 u343 u344 u345 u346 u347 u348 u349 u350 u351 u352 u353 u354 u355 u356 u357 u358 u359 u360 u361 u362 u363 u364 u365 z73_ z74_ x207_3 z75_ z76_ z77_ k3 z78_ HK3 c65b0 c66b0 c67b0 ad333 c333_0 HO309 HO313 z79_ z80_ z81_ z82_ z83_ z84_ ve333_0 HC333_0 p333 q333 z85_ z86_ wc u212 u213 u214 u215 u216 u217 u218 u219 u220 u221 u222 u223 u224 u225 u226 u227 u228 u229 u230 u231 u232 u233 u234 u235 u236 u237 u238 u239 u240 u241 u242 u243 u244 u245 u246 u247 u248 u249 u250 u251 u252 u253 u254 u255 u256 u257 u258 u259 u260 u261 u262 u263 u264 u265 u266 kj67 HJ67 c89b0 c90b0 c90b1 c91b0 c91b1 c92b0 c92b1 c93b0 c93b1 HC94 ad346 hx333_0 HL333_0 z87_ qi346 p346 q346 qi347 p347 q347 qi348 p348 q348 qi349 p349 q349 z88_ z89_ w95 hx346_0 hx347_0 hx348_0 hx349_0 z90_ e347 e348 e349 e350 qi350 p350 q350 e351 qi351 p351 q351 e352 qi352 p352 q352 e353 qi353 p353 q353 e354 qi354 p354 q354 HT_ HW_ w96 HO_7 HO_205 BK305 BK306 HR333_0 HB hx350_0 hx351_0 hx352_0 hx353_0 hx354_0 hHeld z91_ z92_ z93_ z94_ z95_ z96_ z97_ z98_
                       have H := HC94.out
                       clear HC94
                       by_cases c97 : (Int.tmod x207_3 2) = 0
                       ·
                        rw [if_pos c97] at H
                        have c97b0 : ((Int.tmod x207_3 2) == 0) = true := beq_iff_eq.mpr c97
                        have c97b1 : ((Int.tmod x207_3 2) != 0) = false := bne_eq_false_iff_eq.mpr c97
                        clear c97
                        (first | rw [c97b0] | (simp only [i64_w, i32_w]; rw [c97b0]) | skip)
                        by_cases c98 : ((wrap64 ((wrap64 ((wrap64 (a0_0 * (rd (rd_L1 t307 x207_3) 1))) - (wrap64 (a0_2 * (rd (rd_L1 t307 x207_3) 0))))) * (rd (rd_L1 t307 x207_3) 3))) = (wrap64 ((rd (rd_L1 t307 x207_3) 2) * (rd (rd_L1 t307 x207_3) 1))))
                        ·
                         rw [if_pos c98] at H
                         have c98b0 : ((wrap64 ((wrap64 ((wrap64 (a0_0 * (rd (rd_L1 t307 x207_3) 1))) - (wrap64 (a0_2 * (rd (rd_L1 t307 x207_3) 0))))) * (rd (rd_L1 t307 x207_3) 3))) == (wrap64 ((rd (rd_L1 t307 x207_3) 2) * (rd (rd_L1 t307 x207_3) 1)))) = true := beq_iff_eq.mpr c98
                         have c98b1 : ((wrap64 ((wrap64 ((wrap64 (a0_0 * (rd (rd_L1 t307 x207_3) 1))) - (wrap64 (a0_2 * (rd (rd_L1 t307 x207_3) 0))))) * (rd (rd_L1 t307 x207_3) 3))) != (wrap64 ((rd (rd_L1 t307 x207_3) 2) * (rd (rd_L1 t307 x207_3) 1)))) = false := bne_eq_false_iff_eq.mpr c98
                         clear c98
                         (try simp only [c98b0] at *)
                         by_cases c99 : (Int.tmod x207_3 2) = 1
                         ·
                          rw [if_pos c99] at H
                          have c99b0 : ((Int.tmod x207_3 2) == 1) = true := beq_iff_eq.mpr c99
                          have c99b1 : ((Int.tmod x207_3 2) != 1) = false := bne_eq_false_iff_eq.mpr c99
                          clear c99
                          have H' := Aside0.mk H
                          clear H
                          go_wp2
                          go_meet
                          case rel => exact ⟨_, (!((wrap64 ((rd (rd_L1 t307 x207_3) 2) * (rd (rd_L1 t307 x207_3) 1))) == (wrap64 ((wrap64 (a0_1 * (rd (rd_L1 t307 x207_3) 0))) * (rd (rd_L1 t307 x207_3) 3))))), (by first | rfl | (simp; done) | (simp [*]; done)), H', ⟨by have := HJ9.out; have := HJ55.out; have := HK3.out; have := HJ67.out; first | omega | exact Nat.le_refl _⟩, ⟨by (with_reducible repeat (first | apply Kd.S_alloc | apply Kd.S_drewN | apply Kd.S_drew)); exact HO_7.out⟩, ⟨by (with_reducible repeat (first | apply Kd.S_alloc | apply Kd.S_drewN | apply Kd.S_drew)); exact HO_205.out⟩, ⟨bk_⟩, ⟨bk_⟩, ⟨by repeat (first | (with_reducible exact HR333_0.out) | (with_reducible refine Kd.C_alloc ?_ _) | (with_reducible refine Kd.C_drewN ?_ _) | (with_reducible refine Kd.C_drew ?_) | exact HR333_0.out)⟩, ⟨bw_⟩⟩
                         ·
                          rw [if_neg c99] at H
                          have c99b0 : ((Int.tmod x207_3 2) == 1) = false := beq_eq_false_iff_ne.mpr c99
                          have c99b1 : ((Int.tmod x207_3 2) != 1) = true := bne_iff_ne.mpr c99
                          have H' := Aside0.mk H
                          clear H
                          go_wp2
                          go_meet
                          case rel => exact ⟨_, (false), (by first | rfl | (simp; done) | (simp [*]; done)), H', ⟨by have := HJ9.out; have := HJ55.out; have := HK3.out; have := HJ67.out; first | omega | exact Nat.le_refl _⟩, ⟨by (with_reducible repeat (first | apply Kd.S_alloc | apply Kd.S_drewN | apply Kd.S_drew)); exact HO_7.out⟩, ⟨by (with_reducible repeat (first | apply Kd.S_alloc | apply Kd.S_drewN | apply Kd.S_drew)); exact HO_205.out⟩, ⟨bk_⟩, ⟨bk_⟩, ⟨by repeat (first | (with_reducible exact HR333_0.out) | (with_reducible refine Kd.C_alloc ?_ _) | (with_reducible refine Kd.C_drewN ?_ _) | (with_reducible refine Kd.C_drew ?_) | exact HR333_0.out)⟩, ⟨bw_⟩⟩
                        ·
                         rw [if_neg c98] at H
                         have c98b0 : ((wrap64 ((wrap64 ((wrap64 (a0_0 * (rd (rd_L1 t307 x207_3) 1))) - (wrap64 (a0_2 * (rd (rd_L1 t307 x207_3) 0))))) * (rd (rd_L1 t307 x207_3) 3))) == (wrap64 ((rd (rd_L1 t307 x207_3) 2) * (rd (rd_L1 t307 x207_3) 1)))) = false := beq_eq_false_iff_ne.mpr c98
                         have c98b1 : ((wrap64 ((wrap64 ((wrap64 (a0_0 * (rd (rd_L1 t307 x207_3) 1))) - (wrap64 (a0_2 * (rd (rd_L1 t307 x207_3) 0))))) * (rd (rd_L1 t307 x207_3) 3))) != (wrap64 ((rd (rd_L1 t307 x207_3) 2) * (rd (rd_L1 t307 x207_3) 1)))) = true := bne_iff_ne.mpr c98
                         exact absurd (H.trans (congrArg some HRT.out)) (by cases kj67 <;> simp [laws_FnDogsTurnOfAll.j4])
                       ·
                        rw [if_neg c97] at H
                        have c97b0 : ((Int.tmod x207_3 2) == 0) = false := beq_eq_false_iff_ne.mpr c97
                        have c97b1 : ((Int.tmod x207_3 2) != 0) = true := bne_iff_ne.mpr c97
                        (first | rw [c97b0] | (simp only [i64_w, i32_w]; rw [c97b0]) | skip)
                        by_cases c100 : (Int.tmod x207_3 2) = 1
                        ·
                         rw [if_pos c100] at H
                         have c100b0 : ((Int.tmod x207_3 2) == 1) = true := beq_iff_eq.mpr c100
                         have c100b1 : ((Int.tmod x207_3 2) != 1) = false := bne_eq_false_iff_eq.mpr c100
                         clear c100
                         have H' := Aside0.mk H
                         clear H
                         go_wp2
                         go_meet
                         case rel => exact ⟨_, (!((wrap64 ((rd (rd_L1 t307 x207_3) 2) * (rd (rd_L1 t307 x207_3) 1))) == (wrap64 ((wrap64 (a0_1 * (rd (rd_L1 t307 x207_3) 0))) * (rd (rd_L1 t307 x207_3) 3))))), (by first | rfl | (simp; done) | (simp [*]; done)), H', ⟨by have := HJ9.out; have := HJ55.out; have := HK3.out; have := HJ67.out; first | omega | exact Nat.le_refl _⟩, ⟨by (with_reducible repeat (first | apply Kd.S_alloc | apply Kd.S_drewN | apply Kd.S_drew)); exact HO_7.out⟩, ⟨by (with_reducible repeat (first | apply Kd.S_alloc | apply Kd.S_drewN | apply Kd.S_drew)); exact HO_205.out⟩, ⟨bk_⟩, ⟨bk_⟩, ⟨by repeat (first | (with_reducible exact HR333_0.out) | (with_reducible refine Kd.C_alloc ?_ _) | (with_reducible refine Kd.C_drewN ?_ _) | (with_reducible refine Kd.C_drew ?_) | exact HR333_0.out)⟩, ⟨bw_⟩⟩
                        ·
                         rw [if_neg c100] at H
                         have c100b0 : ((Int.tmod x207_3 2) == 1) = false := beq_eq_false_iff_ne.mpr c100
                         have c100b1 : ((Int.tmod x207_3 2) != 1) = true := bne_iff_ne.mpr c100
                         have H' := Aside0.mk H
                         clear H
                         go_wp2
                         go_meet
                         case rel => exact ⟨_, (false), (by first | rfl | (simp; done) | (simp [*]; done)), H', ⟨by have := HJ9.out; have := HJ55.out; have := HK3.out; have := HJ67.out; first | omega | exact Nat.le_refl _⟩, ⟨by (with_reducible repeat (first | apply Kd.S_alloc | apply Kd.S_drewN | apply Kd.S_drew)); exact HO_7.out⟩, ⟨by (with_reducible repeat (first | apply Kd.S_alloc | apply Kd.S_drewN | apply Kd.S_drew)); exact HO_205.out⟩, ⟨bk_⟩, ⟨bk_⟩, ⟨by repeat (first | (with_reducible exact HR333_0.out) | (with_reducible refine Kd.C_alloc ?_ _) | (with_reducible refine Kd.C_drewN ?_ _) | (with_reducible refine Kd.C_drew ?_) | exact HR333_0.out)⟩, ⟨bw_⟩⟩
end Go.Proofs.YtajlcomankjcjaaDoor.PFnDogsTurnOfAll
