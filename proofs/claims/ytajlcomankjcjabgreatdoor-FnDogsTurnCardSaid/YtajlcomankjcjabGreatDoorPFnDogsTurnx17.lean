-- Laid by a program of this session's (wip/gen/printp.sh): the functions that the law reaches, each with its walk.
import Derived.Test.YtajlcomankjcjabGreatDoorPFnDogsTurnx0
import Derived.Test.YtajlcomankjcjabGreatDoorPFnDogsTurnx1
import Derived.Test.YtajlcomankjcjabGreatDoorPFnDogsTurnx2
import Derived.Test.YtajlcomankjcjabGreatDoorPFnDogsTurnx3
import Derived.Test.YtajlcomankjcjabGreatDoorPFnDogsTurnx5
import Derived.Test.YtajlcomankjcjabGreatDoorPFnDogsTurnx6
import Derived.Test.YtajlcomankjcjabGreatDoorPFnDogsTurnx7
import Derived.Test.YtajlcomankjcjabGreatDoorPFnDogsTurnx8
import Derived.Test.YtajlcomankjcjabGreatDoorPFnDogsTurnx9
import Derived.Test.YtajlcomankjcjabGreatDoorPFnDogsTurnx10
import Derived.Test.YtajlcomankjcjabGreatDoorPFnDogsTurnx11
import Derived.Test.YtajlcomankjcjabGreatDoorPFnDogsTurnx12
namespace Go.Proofs.YtajlcomankjcjabGreatDoor.PFnDogsTurn
open Go.RowKit Go.Proofs.YtajlcomankjcjabGreatDoorW.PrintWords Go.Proofs.YtajlcomankjcjabGreatDoorW.PrintLast Go.Proofs.YtajlcomankjcjabGreatDoorW.PrintMore
attribute [local go_sem] max2_int min2_int max_two min_two max_three min_three max_four min_four   -- for this text's walks alone
set_option linter.unusedVariables false
set_option linter.unusedSimpArgs false

attribute [local go_sem high] eqA25
set_option maxHeartbeats 80000000 in
set_option maxRecDepth 100000 in
theorem laws_FnDogsTurn.case5 (k : Nat) (A0 : Option Addr) (c0 : Nat) (l0 : List Int) (A1 : Option Addr) (c1 : Nat) (l1 : List Int) (r : Bool) (w : World) : (laws_FnDogsTurn.part k A0 c0 l0 A1 c1 l1 r w).2.2.2.2.1 := by
                        intro hL0 HRT hu25 HR0 HC0 HR1 HC1 A3 t392 t393 t394 t395 t396 A5 t398 t402 t405 A7 t406 t407 t408 A8 t409 t410 t411 A9 t412 t413 t414 A10 t415 t416 t417 A11 z1_ nd z2_ w13 gb397 w14 GW397 GE397 hcz15_0 hcz15_1 hcz15_2 hcz15_3 hfz15_0 hfz15_1 hfz15_2 hfz15_3 w16 hcz17_0 hcz17_1 hcz17_2 hcz17_3 hfz17_0 hfz17_1 hfz17_2 hfz17_3 w18 v403 hcz19_0 hcz19_1 hcz19_2 hcz19_3 hfz19_0 hfz19_1 hfz19_2 hfz19_3 w20 hcz21_0 hcz21_1 hcz21_2 hcz21_3 hfz21_0 hfz21_1 hfz21_2 hfz21_3 w22 hcz23_0 hcz23_1 hcz23_2 hcz23_3 hfz23_0 hfz23_1 hfz23_2 hfz23_3 w24 hcz25_0 hcz25_1 hcz25_2 hcz25_3 hfz25_0 hfz25_1 hfz25_2 hfz25_3 w26 z3_ z4_ z5_ u129 u130 u131 u132 u133 u134 u135 u136 u137 u138 u139 u140 u141 u142 u143 u144 u145 u146 u147 u148 u149 u150 u151 u152 u153 u154 u155 u156 u157 u158 u159 u160 u161 u162 u163 u164 u165 u166 u167 u168 u169 u170 u171 u172 u173 u174 u175 u176 u177 u178 u179 u180 u181 u182 u183 u184 u185 u186 u187 u188 u189 u190 u191 z6_ z7_ kj11 HJ11 z8_ z9_ z10_ z11_ z12_ A6 z13_ u194 u195 u196 u197 u198 u199 u200 u201 u202 u203 u204 u205 u206 u207 u208 u209 u210 u211 u212 z14_ z15_ kj56 HJ56 co65 wr u4 u23 u24 u25 u26 u27 u28 u29 u217 u218 u219 u220 z16_ z17_ z18_ z19_ z20_ z21_ z22_ z23_ z24_ z25_ z26_ z27_ z28_ z29_ z30_ z31_ z32_ z33_ z34_ z35_ z36_ z37_ z38_ z39_ z40_ z41_ z42_ z43_ z44_ z45_ z46_ z47_ z48_ z49_ z50_ z51_ z52_ z53_ z54_ z55_ z56_ z57_ z58_ z59_ z60_ z61_ z62_ z63_ z64_ z65_ z66_ z67_ z68_ z69_ z70_ u276 u277 u278 u279 u280 u281 u282 u283 u284 u285 u286 u287 u288 u289 u290 u291 u292 u293 u294 u295 u296 u297 u298 u299 u300 u301 u302 u303 u304 u305 u306 u307 u308 u309 u310 u311 u312 u313 u314 u315 u316 u317 u318 u319 u320 u321 z71_ z72_ z73_ z74_ z75_ z76_ z77_ z78_ z79_ z80_ z81_ z82_ z83_ z84_ z85_ z86_ u338 u339 u340 u341 u342 u343 u344 u345 u346 u347 u348 u349 u350 u351 u352 u353 u354 u355 u356 u357 u358 u359 u360 u361 u362 u363 u364 u365 u366 u367 u368 u369 u370 u371 u372 u373 u374 z87_ z88_ x216_3 z89_ z90_ k3 z91_ HK3 c66b0 c67b0 c68b0 ad424 c424_0 HO400 HO404 z92_ z93_ z94_ z95_ z96_ z97_ ve424_0 HC424_0 p424 q424 z98_ z99_ z100_ u221 u222 u223 u224 u225 u226 u227 u228 u229 u230 u231 u232 u233 u234 u235 u236 u237 u238 u239 u240 u241 u242 u243 u244 u245 u246 u247 u248 u249 u250 u251 u252 u253 u254 u255 u256 u257 u258 u259 u260 u261 u262 u263 u264 u265 u266 u267 u268 u269 u270 u271 u272 u273 u274 u275 kj68 HJ68 c90b0 c91b0 c91b1 c92b0 c92b1 c93b0 c93b1 c94b0 c94b1 HC95 ad437 hx424_0 HL424_0 z101_ qi437 p437 q437 qi438 p438 q438 qi439 p439 q439 qi440 p440 q440 z102_ z103_ w96 hx437_0 hx438_0 hx439_0 hx440_0 z104_ e438 e439 e440 e441 qi441 p441 q441 e442 qi442 p442 q442 e443 qi443 p443 q443 e444 qi444 p444 q444 e445 qi445 p445 q445 HT_ HW_ w97 HO_7 HO_214 BK397 HR424_0 HB hx441_0 hx442_0 hx443_0 hx444_0 hx445_0 hHeld z105_ z106_ z107_ z108_ wc u322 u323 u324 u325 u326 u327 u328 u329 u330 u331 u332 u333 u334 u335 u336 u337 hcut
                        clear HC95
                        (try clear c1); (try clear c89); (try clear c90); (try clear c90b0); (try clear c91); (try clear c91b0); (try clear c91b1); (try clear c92); (try clear c92b0); (try clear c92b1); (try clear c93); (try clear c93b0); (try clear c93b1); (try clear c94); (try clear c94b0); (try clear c94b1); (try clear hx437_0); (try clear hx438_0); (try clear hx439_0); (try clear hx440_0); (try clear hx441_0); (try clear hx442_0); (try clear hx443_0); (try clear hx444_0); (try clear hx445_0); (try clear p437); (try clear p438); (try clear p439); (try clear p440); (try clear p441); (try clear p442); (try clear p443); (try clear p444); (try clear p445); (try clear q437); (try clear q438); (try clear q439); (try clear q440); (try clear q441); (try clear q442); (try clear q443); (try clear q444); (try clear q445)
                        obtain ⟨kq, x337_94, rfl, HA, HJ94, HO_7, HO_214, BK397, HR424_0, HB⟩ := hcut
                        cases kq with
                        | zero => exact absurd HA.out (by simp [laws_FnDogsTurn.j4])
                        | succ kj94 =>
                         have H := HA.out
                         clear HA
                         simp only [laws_FnDogsTurn.j4] at H
                         by_cases c102 : x337_94 = true
                         ·
                          subst c102
                          rw [if_pos rfl] at H
                          exact absurd ((Option.some.inj H).trans HRT.out) (by decide)
                         ·
                          replace c102 := Bool.eq_false_iff.mpr c102
                          subst c102
                          rw [if_neg (show ¬ (false = true) by decide)] at H
                          replace H := Option.bind_eq_some_iff.mp H
                          obtain ⟨⟨t446, t447, t448⟩, A1030, H⟩ := H
                          (try dsimp only at H)
                          have A103 := Aside0.mk A1030
                          clear A1030
                          by_cases c104 : t448 = true
                          ·
                           subst c104
                           rw [if_pos rfl] at H
                           by_cases c105 : 1 < ((rd_L2 t398 x216_3).length : Int)
                           ·
                            rw [if_pos c105] at H
                            have c105b0 : decide (1 < ((rd_L2 t398 x216_3).length : Int)) = true := decide_eq_true c105
                            have c105b1 : decide (1 < (rd_L2 t398 x216_3).length) = true := decide_eq_true (by omega)
                            clear c105
                            by_cases c106 : 0 < ((rd_L2 t398 x216_3).length : Int)
                            ·
                             rw [if_pos c106] at H
                             have c106b0 : decide (0 < ((rd_L2 t398 x216_3).length : Int)) = true := decide_eq_true c106
                             have c106b1 : decide (0 < (rd_L2 t398 x216_3).length) = true := decide_eq_true (by omega)
                             clear c106
                             by_cases c107 : (wrap64 (t446 * (rd (rd_L2 t398 x216_3) 1))) = (wrap64 (t447 * (wrap64 ((wrap64 (t392 * (rd (rd_L2 t398 x216_3) 1))) - (wrap64 ((wrap64 (t393 + t394)) * (rd (rd_L2 t398 x216_3) 0)))))))
                             ·
                              rw [if_pos c107] at H
                              have c107b0 : ((wrap64 (t446 * (rd (rd_L2 t398 x216_3) 1))) == (wrap64 (t447 * (wrap64 ((wrap64 (t392 * (rd (rd_L2 t398 x216_3) 1))) - (wrap64 ((wrap64 (t393 + t394)) * (rd (rd_L2 t398 x216_3) 0)))))))) = true := beq_iff_eq.mpr c107
                              have c107b1 : ((wrap64 (t446 * (rd (rd_L2 t398 x216_3) 1))) != (wrap64 (t447 * (wrap64 ((wrap64 (t392 * (rd (rd_L2 t398 x216_3) 1))) - (wrap64 ((wrap64 (t393 + t394)) * (rd (rd_L2 t398 x216_3) 0)))))))) = false := bne_eq_false_iff_eq.mpr c107
                              clear c107
                              have H' := Aside0.mk H
                              clear H
                              have hcz108_0 : wc.cell? ⟨gb397, 0, none⟩ = some (.int .i64 t392) := (blk_cell BK397.out 0).trans rfl
                              have hcz108_1 : wc.cell? ⟨gb397, 1, none⟩ = some (.int .i64 t393) := (blk_cell BK397.out 1).trans rfl
                              have hcz108_2 : wc.cell? ⟨gb397, 2, none⟩ = some (.int .i64 t394) := (blk_cell BK397.out 2).trans rfl
                              have hcz108_3 : wc.cell? ⟨gb397, 3, none⟩ = some (.int .i64 t395) := (blk_cell BK397.out 3).trans rfl
                              have hfz108_0 := blk_frozen BK397.out 0
                              have hfz108_1 := blk_frozen BK397.out 1
                              have hfz108_2 := blk_frozen BK397.out 2
                              have hfz108_3 := blk_frozen BK397.out 3
                              try go_wp2_with (first | ((with_reducible refine gate_callee (f := 8) rfl ?_); refine goesL_ (some 342) rfl rfl Tryz.func8 (by kernel_rfl) rfl #[.agg #[.int .i64 t392, .int .i64 t393, .int .i64 t394, .int .i64 t395], .int .i64 (wrap64 (x216_3 + 1))] rfl (by (try simp only [List.map_toArray, List.map_cons, List.map_nil]); first | done | rfl | (simp only [List.length_drop, List.length_take]; rfl)) ?_; (with_reducible refine (impl_ApartAfterTurn.calls kj94 t392 t393 t394 t395 (wrap64 (x216_3 + 1)) t446 t447 true _ A103.out).mono ?_); rintro e w109 ⟨rfl, hb⟩; refine ⟨_, rfl, ?_⟩; have n0_ := Aside0.mk (Kd.S_below (by (with_reducible repeat (first | apply Kd.S_alloc | apply Kd.S_drewN | apply Kd.S_drew)); exact HO_7.out) hb); have n1_ := Aside0.mk (Kd.S_below (by (with_reducible repeat (first | apply Kd.S_alloc | apply Kd.S_drewN | apply Kd.S_drew)); exact HO_214.out) hb); have n2_ := Aside0.mk (blk_below (g := gb397) (o := .cells #[.int .i64 t392, .int .i64 t393, .int .i64 t394, .int .i64 t395] 25 (0, 0)) bk_ hb); have n3_ := Aside0.mk (Kd.C_below (by repeat (first | (with_reducible exact HR424_0.out) | (with_reducible refine Kd.C_alloc ?_ _) | (with_reducible refine Kd.C_drewN ?_ _) | (with_reducible refine Kd.C_drew ?_) | exact HR424_0.out)) hb); have n4_ := Aside0.mk (below_step bw_ hb); clear HO_7; clear HO_214; clear BK397; clear HR424_0; clear HB; have HO_7 := n0_; have HO_214 := n1_; have BK397 := n2_; have HR424_0 := n3_; have HB := n4_; clear n0_ n1_ n2_ n3_ n4_; (try clear hb); (try clear hb2); (try clear hk); (try clear hi)))
                              have n0_ := Aside0.mk (Kd.S_drew HO_7.out)
                              have n1_ := Aside0.mk (Kd.S_drew HO_214.out)
                              have n2_ := Aside0.mk (blk_drew BK397.out)
                              have n3_ := Aside0.mk (Kd.C_drew HR424_0.out)
                              have n4_ := Aside0.mk (below_drew1 HB.out)
                              clear HO_7
                              clear HO_214
                              clear BK397
                              clear HR424_0
                              clear HB
                              have HO_7 := n0_
                              have HO_214 := n1_
                              have BK397 := n2_
                              have HR424_0 := n3_
                              have HB := n4_
                              clear n0_ n1_ n2_ n3_ n4_
                              have p449 : 0 ≤ (1 : Int) := (by omega)
                              have q449 : 1 < ((rd_L2 t398 x216_3).length : Int) := of_decide_eq_true (by first | (with_reducible assumption) | assumption)
                              obtain ⟨ad449, e449, hx449_0⟩ := Kd.at_int (by repeat (first | (with_reducible exact HR424_0.out) | (with_reducible refine Kd.C_alloc ?_ _) | (with_reducible refine Kd.C_drewN ?_ _) | (with_reducible refine Kd.C_drew ?_) | exact HR424_0.out)) 1 p449 q449
                              obtain rfl : ad437 = ad449 := (by injection e449)
                              (try simp only [show (1 : Int).toNat = 1 from rfl, Nat.reduceMul, Nat.reduceEqDiff, Go.Addr.add, ↓reduceIte] at hx449_0)
                              have qi449 : (1 < (rd_L2 t398 x216_3).length) = True := eq_true (by omega)
                              (try rw [show ((1 : Int)).toNat = 1 from rfl] at hx449_0)
                              replace p449 := eq_true p449
                              replace q449 := eq_true q449
                              have p450 : 0 ≤ (1 : Int) := (by omega)
                              have q450 : 1 < ((rd_L2 t398 x216_3).length : Int) := of_decide_eq_true (by first | (with_reducible assumption) | assumption)
                              obtain ⟨ad450, e450, hx450_0⟩ := Kd.at_int (by repeat (first | (with_reducible exact HR424_0.out) | (with_reducible refine Kd.C_alloc ?_ _) | (with_reducible refine Kd.C_drewN ?_ _) | (with_reducible refine Kd.C_drew ?_) | exact HR424_0.out)) 1 p450 q450
                              obtain rfl : ad437 = ad450 := (by injection e450)
                              (try simp only [show (1 : Int).toNat = 1 from rfl, Nat.reduceMul, Nat.reduceEqDiff, Go.Addr.add, ↓reduceIte] at hx450_0)
                              have qi450 : (1 < (rd_L2 t398 x216_3).length) = True := eq_true (by omega)
                              (try rw [show ((1 : Int)).toNat = 1 from rfl] at hx450_0)
                              replace p450 := eq_true p450
                              replace q450 := eq_true q450
                              have p451 : 0 ≤ (0 : Int) := (by omega)
                              have q451 : 0 < ((rd_L2 t398 x216_3).length : Int) := of_decide_eq_true (by first | (with_reducible assumption) | assumption)
                              obtain ⟨ad451, e451, hx451_0⟩ := Kd.at_int (by repeat (first | (with_reducible exact HR424_0.out) | (with_reducible refine Kd.C_alloc ?_ _) | (with_reducible refine Kd.C_drewN ?_ _) | (with_reducible refine Kd.C_drew ?_) | exact HR424_0.out)) 0 p451 q451
                              obtain rfl : ad437 = ad451 := (by injection e451)
                              have qi451 : (0 < (rd_L2 t398 x216_3).length) = True := eq_true (by omega)
                              (try rw [show ((0 : Int)).toNat = 0 from rfl] at hx451_0)
                              (try rw [Addr.add_zero'] at hx451_0)
                              replace p451 := eq_true p451
                              replace q451 := eq_true q451
                              refine start_ (n := 28) (S := fun w' => w'.cell? ⟨gb397, 0, none⟩ = some (.int .i64 t392) ∧ w'.cell? ⟨gb397, 1, none⟩ = some (.int .i64 t393) ∧ w'.cell? ⟨gb397, 2, none⟩ = some (.int .i64 t394) ∧ w'.cell? ⟨gb397, 3, none⟩ = some (.int .i64 t395) ∧ w'.cell? ⟨ad437.block, ad437.off + 1, none⟩ = some (.int .i64 (rd (rd_L2 t398 x216_3) 1)) ∧ w'.cell? ⟨ad437.block, ad437.off + 1, none⟩ = some (.int .i64 (rd (rd_L2 t398 x216_3) 1)) ∧ w'.cell? ad437 = some (.int .i64 (rd (rd_L2 t398 x216_3) 0))) (ds := []) #[false, false, false, false, false, false, false, false, false, false, false, false, false, false, false, false, false, false, false, false, false, false, false, false, false, false, false, false] (by kernel_rfl) rfl rfl ⟨(blk_cell BK397.out 0).trans rfl, (blk_cell BK397.out 1).trans rfl, (blk_cell BK397.out 2).trans rfl, (blk_cell BK397.out 3).trans rfl, hx449_0, hx450_0, hx451_0⟩ (fun hHeld => ?_); refine with_tabW laws_FnDogsTurn.tab26 laws_FnDogsTurn.bits26 (fun HT_ HW_ => ?_)
                              generalize w109.drew = w110 at HO_7 HO_214 BK397 HR424_0 HB hx449_0 hx450_0 hx451_0 hHeld ⊢
                              refine pu_ 0 346 28 1 ?_
                              refine pu_ 1 347 28 3 ?_
                              refine pu_ 2 348 28 7 ?_
                              refine pu_ 3 349 28 15 ?_
                              refine pu_ 4 350 28 31 ?_
                              refine pu_ 5 351 28 63 ?_
                              refine pu_ 8 354 28 319 ?_
                              refine pu_ 9 355 28 831 ?_
                              refine pu_ 11 357 28 2879 ?_
                              refine pu_ 12 358 28 6975 ?_
                              refine pu_ 15 361 28 39743 ?_
                              refine pu_ 17 363 28 170815 ?_
                              refine pu_ 20 366 28 1219391 ?_
                              refine pu_ 21 367 28 3316543 ?_
                              refine tk_ 6 352 28 3316607 hHeld ?_
                              refine pu_ 7 353 28 3316735 ?_
                              refine tk_ 10 356 28 3317759 hHeld ?_
                              refine tk_ 13 359 28 3325951 hHeld ?_
                              refine pu_ 14 360 28 3342335 ?_
                              refine tk_ 16 362 28 3407871 hHeld ?_
                              refine tk_ 18 364 28 3670015 hHeld ?_
                              refine pu_ 19 365 28 4194303 ?_
                              refine tk_ 22 368 28 8388607 hHeld ?_
                              refine pu_ 23 369 28 16777215 ?_
                              refine pu_ 24 370 28 33554431 ?_
                              refine pu_ 25 371 28 67108863 ?_
                              refine pu_ 26 372 28 134217727 ?_
                              refine pu_ 27 373 28 268435455 ?_
                              refine done_ (done_of HT_.out (by kernel_rfl)) ?_
                              try go_wp2
                              go_roundg kj94
                              case measure => have := HJ11.out; have := HJ56.out; have := HK3.out; have := HJ68.out; have := HJ94.out; omega
                              case rel => exact ⟨(wrap64 (x216_3 + 1)), (by first | rfl | (simp; done) | (simp [*]; done)), H', ⟨by have := HJ11.out; have := HJ56.out; have := HK3.out; have := HJ68.out; have := HJ94.out; omega⟩, ⟨by (with_reducible repeat (first | apply Kd.S_alloc | apply Kd.S_drewN | apply Kd.S_drew)); exact HO_7.out⟩, ⟨by (with_reducible repeat (first | apply Kd.S_alloc | apply Kd.S_drewN | apply Kd.S_drew)); exact HO_214.out⟩, ⟨bk_⟩, ⟨bw_⟩⟩
                             ·
                              rw [if_neg c107] at H
                              have c107b0 : ((wrap64 (t446 * (rd (rd_L2 t398 x216_3) 1))) == (wrap64 (t447 * (wrap64 ((wrap64 (t392 * (rd (rd_L2 t398 x216_3) 1))) - (wrap64 ((wrap64 (t393 + t394)) * (rd (rd_L2 t398 x216_3) 0)))))))) = false := beq_eq_false_iff_ne.mpr c107
                              have c107b1 : ((wrap64 (t446 * (rd (rd_L2 t398 x216_3) 1))) != (wrap64 (t447 * (wrap64 ((wrap64 (t392 * (rd (rd_L2 t398 x216_3) 1))) - (wrap64 ((wrap64 (t393 + t394)) * (rd (rd_L2 t398 x216_3) 0)))))))) = true := bne_iff_ne.mpr c107
                              exact absurd ((Option.some.inj H).trans HRT.out) (by decide)
                            ·
                             rw [if_neg c106] at H
                             exact absurd H (by simp)
                           ·
                            rw [if_neg c105] at H
                            exact absurd H (by simp)
                          ·
                           replace c104 := Bool.eq_false_iff.mpr c104
                           subst c104
                           rw [if_neg (show ¬ (false = true) by decide)] at H
                           exact absurd ((Option.some.inj H).trans HRT.out) (by decide)
end Go.Proofs.YtajlcomankjcjabGreatDoor.PFnDogsTurn
