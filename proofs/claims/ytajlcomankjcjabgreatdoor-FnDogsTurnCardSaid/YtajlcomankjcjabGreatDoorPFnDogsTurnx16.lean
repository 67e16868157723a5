-- Laid by a program of this session's (wip/gen/printp.sh): the functions that the law reaches, each with its walk.
import Derived.Test.YtajlcomankjcjabGreatDoorPFnDogsTurnx0
import Derived.Test.YtajlcomankjcjabGreatDoorPFnDogsTurnx1
import Derived.Test.YtajlcomankjcjabGreatDoorPFnDogsTurnx2
import Derived.Test.YtajlcomankjcjabGreatDoorPFnDogsTurnx3
import Derived.Test.YtajlcomankjcjabGreatDoorPFnDogsTurnx5
import Derived.Test.YtajlcomankjcjabGreatDoorPFnDogsTurnx6
import Derived.Test.YtajlcomankjcjabGreatDoorPFnDogsTurnx7
import Derived.Test.YtajlcomankjcjabGreatDoorPFnDogsTurnx8
import Derived.Test.YtajlcomankjcjabGreatDoorPFnDogsTurnx9
import Derived.Test.YtajlcomankjcjabGreatDoorPFnDogsTurnx10
import Derived.Test.YtajlcomankjcjabGreatDoorPFnDogsTurnx11
import Derived.Test.YtajlcomankjcjabGreatDoorPFnDogsTurnx12
namespace Go.Proofs.YtajlcomankjcjabGreatDoor.PFnDogsTurn
open Go.RowKit Go.Proofs.YtajlcomankjcjabGreatDoorW.PrintWords Go.Proofs.YtajlcomankjcjabGreatDoorW.PrintLast Go.Proofs.YtajlcomankjcjabGreatDoorW.PrintMore
attribute [local go_sem] max2_int min2_int max_two min_two max_three min_three max_four min_four   -- for this text's walks alone
set_option linter.unusedVariables false
set_option linter.unusedSimpArgs false

attribute [local go_sem high] eqA25
set_option maxHeartbeats 80000000 in
set_option maxRecDepth 100000 in
theorem laws_FnDogsTurn.case4 (k : Nat) (A0 : Option Addr) (c0 : Nat) (l0 : List Int) (A1 : Option Addr) (c1 : Nat) (l1 : List Int) (r : Bool) (w : World) : (laws_FnDogsTurn.part k A0 c0 l0 A1 c1 l1 r w).2.2.2.1 := by
                        intro hL0 HRT hu25 HR0 HC0 HR1 HC1 A3 t392 t393 t394 t395 t396 A5 t398 t402 t405 A7 t406 t407 t408 A8 t409 t410 t411 A9 t412 t413 t414 A10 t415 t416 t417 A11 z1_ nd z2_ w13 gb397 w14 GW397 GE397 hcz15_0 hcz15_1 hcz15_2 hcz15_3 hfz15_0 hfz15_1 hfz15_2 hfz15_3 w16 hcz17_0 hcz17_1 hcz17_2 hcz17_3 hfz17_0 hfz17_1 hfz17_2 hfz17_3 w18 v403 hcz19_0 hcz19_1 hcz19_2 hcz19_3 hfz19_0 hfz19_1 hfz19_2 hfz19_3 w20 hcz21_0 hcz21_1 hcz21_2 hcz21_3 hfz21_0 hfz21_1 hfz21_2 hfz21_3 w22 hcz23_0 hcz23_1 hcz23_2 hcz23_3 hfz23_0 hfz23_1 hfz23_2 hfz23_3 w24 hcz25_0 hcz25_1 hcz25_2 hcz25_3 hfz25_0 hfz25_1 hfz25_2 hfz25_3 w26 z3_ z4_ z5_ u129 u130 u131 u132 u133 u134 u135 u136 u137 u138 u139 u140 u141 u142 u143 u144 u145 u146 u147 u148 u149 u150 u151 u152 u153 u154 u155 u156 u157 u158 u159 u160 u161 u162 u163 u164 u165 u166 u167 u168 u169 u170 u171 u172 u173 u174 u175 u176 u177 u178 u179 u180 u181 u182 u183 u184 u185 u186 u187 u188 u189 u190 u191 z6_ z7_ kj11 HJ11 z8_ z9_ z10_ z11_ z12_ A6 z13_ u194 u195 u196 u197 u198 u199 u200 u201 u202 u203 u204 u205 u206 u207 u208 u209 u210 u211 u212 z14_ z15_ kj56 HJ56 co65 wr u4 u23 u24 u25 u26 u27 u28 u29 u217 u218 u219 u220 z16_ z17_ z18_ z19_ z20_ z21_ z22_ z23_ z24_ z25_ z26_ z27_ z28_ z29_ z30_ z31_ z32_ z33_ z34_ z35_ z36_ z37_ z38_ z39_ z40_ z41_ z42_ z43_ z44_ z45_ z46_ z47_ z48_ z49_ z50_ z51_ z52_ z53_ z54_ z55_ z56_ z57_ z58_ z59_ z60_ z61_ z62_ z63_ z64_ z65_ z66_ z67_ z68_ z69_ z70_ u276 u277 u278 u279 u280 u281 u282 u283 u284 u285 u286 u287 u288 u289 u290 u291 u292 u293 u294 u295 u296 u297 u298 u299 u300 u301 u302 u303 u304 u305 u306 u307 u308 u309 u310 u311 u312 u313 u314 u315 u316 u317 u318 u319 u320 u321 u322 u323 u324 u325 u326 u327 u328 u329 u330 u331 u332 u333 u334 u335 u336 u337 u338 u339 u340 u341 u342 u343 u344 u345 u346 u347 u348 u349 u350 u351 u352 u353 u354 u355 u356 u357 u358 u359 u360 u361 u362 u363 u364 u365 u366 u367 u368 u369 u370 u371 u372 u373 u374 z71_ z72_ x216_3 z73_ z74_ k3 z75_ HK3 c66b0 c67b0 c68b0 ad424 c424_0 HO400 HO404 z76_ z77_ z78_ z79_ z80_ z81_ ve424_0 HC424_0 p424 q424 z82_ z83_ wc u221 u222 u223 u224 u225 u226 u227 u228 u229 u230 u231 u232 u233 u234 u235 u236 u237 u238 u239 u240 u241 u242 u243 u244 u245 u246 u247 u248 u249 u250 u251 u252 u253 u254 u255 u256 u257 u258 u259 u260 u261 u262 u263 u264 u265 u266 u267 u268 u269 u270 u271 u272 u273 u274 u275 kj68 HJ68 c90b0 c91b0 c91b1 c92b0 c92b1 c93b0 c93b1 c94b0 c94b1 HC95 ad437 hx424_0 HL424_0 z84_ qi437 p437 q437 qi438 p438 q438 qi439 p439 q439 qi440 p440 q440 z85_ z86_ w96 hx437_0 hx438_0 hx439_0 hx440_0 z87_ e438 e439 e440 e441 qi441 p441 q441 e442 qi442 p442 q442 e443 qi443 p443 q443 e444 qi444 p444 q444 e445 qi445 p445 q445 HT_ HW_ w97 HO_7 HO_214 BK397 HR424_0 HB hx441_0 hx442_0 hx443_0 hx444_0 hx445_0 hHeld z88_ z89_ z90_ z91_ z92_ z93_ z94_ z95_
                        have H := HC95.out
                        clear HC95
                        by_cases c98 : (Int.tmod x216_3 2) = 0
                        ·
                         rw [if_pos c98] at H
                         have c98b0 : ((Int.tmod x216_3 2) == 0) = true := beq_iff_eq.mpr c98
                         have c98b1 : ((Int.tmod x216_3 2) != 0) = false := bne_eq_false_iff_eq.mpr c98
                         clear c98
                         (first | rw [c98b0] | (simp only [i64_w, i32_w]; rw [c98b0]) | skip)
                         by_cases c99 : ((wrap64 ((wrap64 ((wrap64 (t392 * (rd (rd_L2 t398 x216_3) 1))) - (wrap64 (t394 * (rd (rd_L2 t398 x216_3) 0))))) * (rd (rd_L2 t398 x216_3) 3))) = (wrap64 ((rd (rd_L2 t398 x216_3) 2) * (rd (rd_L2 t398 x216_3) 1))))
                         ·
                          rw [if_pos c99] at H
                          have c99b0 : ((wrap64 ((wrap64 ((wrap64 (t392 * (rd (rd_L2 t398 x216_3) 1))) - (wrap64 (t394 * (rd (rd_L2 t398 x216_3) 0))))) * (rd (rd_L2 t398 x216_3) 3))) == (wrap64 ((rd (rd_L2 t398 x216_3) 2) * (rd (rd_L2 t398 x216_3) 1)))) = true := beq_iff_eq.mpr c99
                          have c99b1 : ((wrap64 ((wrap64 ((wrap64 (t392 * (rd (rd_L2 t398 x216_3) 1))) - (wrap64 (t394 * (rd (rd_L2 t398 x216_3) 0))))) * (rd (rd_L2 t398 x216_3) 3))) != (wrap64 ((rd (rd_L2 t398 x216_3) 2) * (rd (rd_L2 t398 x216_3) 1)))) = false := bne_eq_false_iff_eq.mpr c99
                          clear c99
                          (try simp only [c99b0] at *)
                          by_cases c100 : (Int.tmod x216_3 2) = 1
                          ·
                           rw [if_pos c100] at H
                           have c100b0 : ((Int.tmod x216_3 2) == 1) = true := beq_iff_eq.mpr c100
                           have c100b1 : ((Int.tmod x216_3 2) != 1) = false := bne_eq_false_iff_eq.mpr c100
                           clear c100
                           have H' := Aside0.mk H
                           clear H
                           go_wp2
                           go_meet
                           case rel => exact ⟨_, (!((wrap64 ((rd (rd_L2 t398 x216_3) 2) * (rd (rd_L2 t398 x216_3) 1))) == (wrap64 ((wrap64 (t393 * (rd (rd_L2 t398 x216_3) 0))) * (rd (rd_L2 t398 x216_3) 3))))), (by first | rfl | (simp; done) | (simp [*]; done)), H', ⟨by have := HJ11.out; have := HJ56.out; have := HK3.out; have := HJ68.out; first | omega | exact Nat.le_refl _⟩, ⟨by (with_reducible repeat (first | apply Kd.S_alloc | apply Kd.S_drewN | apply Kd.S_drew)); exact HO_7.out⟩, ⟨by (with_reducible repeat (first | apply Kd.S_alloc | apply Kd.S_drewN | apply Kd.S_drew)); exact HO_214.out⟩, ⟨bk_⟩, ⟨by repeat (first | (with_reducible exact HR424_0.out) | (with_reducible refine Kd.C_alloc ?_ _) | (with_reducible refine Kd.C_drewN ?_ _) | (with_reducible refine Kd.C_drew ?_) | exact HR424_0.out)⟩, ⟨bw_⟩⟩
                          ·
                           rw [if_neg c100] at H
                           have c100b0 : ((Int.tmod x216_3 2) == 1) = false := beq_eq_false_iff_ne.mpr c100
                           have c100b1 : ((Int.tmod x216_3 2) != 1) = true := bne_iff_ne.mpr c100
                           have H' := Aside0.mk H
                           clear H
                           go_wp2
                           go_meet
                           case rel => exact ⟨_, (false), (by first | rfl | (simp; done) | (simp [*]; done)), H', ⟨by have := HJ11.out; have := HJ56.out; have := HK3.out; have := HJ68.out; first | omega | exact Nat.le_refl _⟩, ⟨by (with_reducible repeat (first | apply Kd.S_alloc | apply Kd.S_drewN | apply Kd.S_drew)); exact HO_7.out⟩, ⟨by (with_reducible repeat (first | apply Kd.S_alloc | apply Kd.S_drewN | apply Kd.S_drew)); exact HO_214.out⟩, ⟨bk_⟩, ⟨by repeat (first | (with_reducible exact HR424_0.out) | (with_reducible refine Kd.C_alloc ?_ _) | (with_reducible refine Kd.C_drewN ?_ _) | (with_reducible refine Kd.C_drew ?_) | exact HR424_0.out)⟩, ⟨bw_⟩⟩
                         ·
                          rw [if_neg c99] at H
                          have c99b0 : ((wrap64 ((wrap64 ((wrap64 (t392 * (rd (rd_L2 t398 x216_3) 1))) - (wrap64 (t394 * (rd (rd_L2 t398 x216_3) 0))))) * (rd (rd_L2 t398 x216_3) 3))) == (wrap64 ((rd (rd_L2 t398 x216_3) 2) * (rd (rd_L2 t398 x216_3) 1)))) = false := beq_eq_false_iff_ne.mpr c99
                          have c99b1 : ((wrap64 ((wrap64 ((wrap64 (t392 * (rd (rd_L2 t398 x216_3) 1))) - (wrap64 (t394 * (rd (rd_L2 t398 x216_3) 0))))) * (rd (rd_L2 t398 x216_3) 3))) != (wrap64 ((rd (rd_L2 t398 x216_3) 2) * (rd (rd_L2 t398 x216_3) 1)))) = true := bne_iff_ne.mpr c99
                          exact absurd (H.trans (congrArg some HRT.out)) (by cases kj68 <;> simp [laws_FnDogsTurn.j4])
                        ·
                         rw [if_neg c98] at H
                         have c98b0 : ((Int.tmod x216_3 2) == 0) = false := beq_eq_false_iff_ne.mpr c98
                         have c98b1 : ((Int.tmod x216_3 2) != 0) = true := bne_iff_ne.mpr c98
                         (first | rw [c98b0] | (simp only [i64_w, i32_w]; rw [c98b0]) | skip)
                         by_cases c101 : (Int.tmod x216_3 2) = 1
                         ·
                          rw [if_pos c101] at H
                          have c101b0 : ((Int.tmod x216_3 2) == 1) = true := beq_iff_eq.mpr c101
                          have c101b1 : ((Int.tmod x216_3 2) != 1) = false := bne_eq_false_iff_eq.mpr c101
                          clear c101
                          have H' := Aside0.mk H
                          clear H
                          go_wp2
                          go_meet
                          case rel => exact ⟨_, (!((wrap64 ((rd (rd_L2 t398 x216_3) 2) * (rd (rd_L2 t398 x216_3) 1))) == (wrap64 ((wrap64 (t393 * (rd (rd_L2 t398 x216_3) 0))) * (rd (rd_L2 t398 x216_3) 3))))), (by first | rfl | (simp; done) | (simp [*]; done)), H', ⟨by have := HJ11.out; have := HJ56.out; have := HK3.out; have := HJ68.out; first | omega | exact Nat.le_refl _⟩, ⟨by (with_reducible repeat (first | apply Kd.S_alloc | apply Kd.S_drewN | apply Kd.S_drew)); exact HO_7.out⟩, ⟨by (with_reducible repeat (first | apply Kd.S_alloc | apply Kd.S_drewN | apply Kd.S_drew)); exact HO_214.out⟩, ⟨bk_⟩, ⟨by repeat (first | (with_reducible exact HR424_0.out) | (with_reducible refine Kd.C_alloc ?_ _) | (with_reducible refine Kd.C_drewN ?_ _) | (with_reducible refine Kd.C_drew ?_) | exact HR424_0.out)⟩, ⟨bw_⟩⟩
                         ·
                          rw [if_neg c101] at H
                          have c101b0 : ((Int.tmod x216_3 2) == 1) = false := beq_eq_false_iff_ne.mpr c101
                          have c101b1 : ((Int.tmod x216_3 2) != 1) = true := bne_iff_ne.mpr c101
                          have H' := Aside0.mk H
                          clear H
                          go_wp2
                          go_meet
                          case rel => exact ⟨_, (false), (by first | rfl | (simp; done) | (simp [*]; done)), H', ⟨by have := HJ11.out; have := HJ56.out; have := HK3.out; have := HJ68.out; first | omega | exact Nat.le_refl _⟩, ⟨by (with_reducible repeat (first | apply Kd.S_alloc | apply Kd.S_drewN | apply Kd.S_drew)); exact HO_7.out⟩, ⟨by (with_reducible repeat (first | apply Kd.S_alloc | apply Kd.S_drewN | apply Kd.S_drew)); exact HO_214.out⟩, ⟨bk_⟩, ⟨by repeat (first | (with_reducible exact HR424_0.out) | (with_reducible refine Kd.C_alloc ?_ _) | (with_reducible refine Kd.C_drewN ?_ _) | (with_reducible refine Kd.C_drew ?_) | exact HR424_0.out)⟩, ⟨bw_⟩⟩
end Go.Proofs.YtajlcomankjcjabGreatDoor.PFnDogsTurn
