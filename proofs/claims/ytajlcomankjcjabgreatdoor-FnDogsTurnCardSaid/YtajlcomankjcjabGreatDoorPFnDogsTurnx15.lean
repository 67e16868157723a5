-- Laid by a program of this session's (wip/gen/printp.sh): the functions that the law reaches, each with its walk.
import Derived.Test.YtajlcomankjcjabGreatDoorPFnDogsTurnx0
import Derived.Test.YtajlcomankjcjabGreatDoorPFnDogsTurnx1
import Derived.Test.YtajlcomankjcjabGreatDoorPFnDogsTurnx2
import Derived.Test.YtajlcomankjcjabGreatDoorPFnDogsTurnx3
import Derived.Test.YtajlcomankjcjabGreatDoorPFnDogsTurnx5
import Derived.Test.YtajlcomankjcjabGreatDoorPFnDogsTurnx6
import Derived.Test.YtajlcomankjcjabGreatDoorPFnDogsTurnx7
import Derived.Test.YtajlcomankjcjabGreatDoorPFnDogsTurnx8
import Derived.Test.YtajlcomankjcjabGreatDoorPFnDogsTurnx9
import Derived.Test.YtajlcomankjcjabGreatDoorPFnDogsTurnx10
import Derived.Test.YtajlcomankjcjabGreatDoorPFnDogsTurnx11
import Derived.Test.YtajlcomankjcjabGreatDoorPFnDogsTurnx12
namespace Go.Proofs.YtajlcomankjcjabGreatDoor.PFnDogsTurn
open Go.RowKit Go.Proofs.YtajlcomankjcjabGreatDoorW.PrintWords Go.Proofs.YtajlcomankjcjabGreatDoorW.PrintLast Go.Proofs.YtajlcomankjcjabGreatDoorW.PrintMore
attribute [local go_sem] max2_int min2_int max_two min_two max_three min_three max_four min_four   -- for this text's walks alone
set_option linter.unusedVariables false
set_option linter.unusedSimpArgs false

attribute [local go_sem high] eqA25
set_option maxHeartbeats 80000000 in
set_option maxRecDepth 100000 in
theorem laws_FnDogsTurn.case3 (k : Nat) (A0 : Option Addr) (c0 : Nat) (l0 : List Int) (A1 : Option Addr) (c1 : Nat) (l1 : List Int) (r : Bool) (w : World) : (laws_FnDogsTurn.part k A0 c0 l0 A1 c1 l1 r w).2.2.1 := by
                intro hL0 HRT hu25 HR0 HC0 HR1 HC1 A3 t392 t393 t394 t395 t396 A5 t398 t402 t405 A7 t406 t407 t408 A8 t409 t410 t411 A9 t412 t413 t414 A10 t415 t416 t417 A11 z1_ nd z2_ w13 gb397 w14 GW397 GE397 hcz15_0 hcz15_1 hcz15_2 hcz15_3 hfz15_0 hfz15_1 hfz15_2 hfz15_3 w16 hcz17_0 hcz17_1 hcz17_2 hcz17_3 hfz17_0 hfz17_1 hfz17_2 hfz17_3 w18 v403 hcz19_0 hcz19_1 hcz19_2 hcz19_3 hfz19_0 hfz19_1 hfz19_2 hfz19_3 w20 hcz21_0 hcz21_1 hcz21_2 hcz21_3 hfz21_0 hfz21_1 hfz21_2 hfz21_3 w22 hcz23_0 hcz23_1 hcz23_2 hcz23_3 hfz23_0 hfz23_1 hfz23_2 hfz23_3 w24 hcz25_0 hcz25_1 hcz25_2 hcz25_3 hfz25_0 hfz25_1 hfz25_2 hfz25_3 w26 z3_ z4_ z5_ u129 u130 u131 u132 u133 u134 u135 u136 u137 u138 u139 u140 u141 u142 u143 u144 u145 u146 u147 u148 u149 u150 u151 u152 u153 u154 u155 u156 u157 u158 u159 u160 u161 u162 u163 u164 u165 u166 u167 u168 u169 u170 u171 u172 u173 u174 u175 u176 u177 u178 u179 u180 u181 u182 u183 u184 u185 u186 u187 u188 u189 u190 u191 z6_ z7_ kj11 HJ11 z8_ z9_ z10_ z11_ z12_ A6 wc u194 u195 u196 u197 u198 u199 u200 u201 u202 u203 u204 u205 u206 u207 u208 u209 u210 u211 u212 z13_ z14_ kj56 HJ56 co65 wr u4 u23 u24 u25 u26 u27 u28 u29 u217 u218 u219 u220 u221 u222 u223 u224 u225 u226 u227 u228 u229 u230 u231 u232 u233 u234 u235 u236 u237 u238 u239 u240 u241 u242 u243 u244 u245 u246 u247 u248 u249 u250 u251 u252 u253 u254 u255 u256 u257 u258 u259 u260 u261 u262 u263 u264 u265 u266 u267 u268 u269 u270 u271 u272 u273 u274 u275 u276 u277 u278 u279 u280 u281 u282 u283 u284 u285 u286 u287 u288 u289 u290 u291 u292 u293 u294 u295 u296 u297 u298 u299 u300 u301 u302 u303 u304 u305 u306 u307 u308 u309 u310 u311 u312 u313 u314 u315 u316 u317 u318 u319 u320 u321 u322 u323 u324 u325 u326 u327 u328 u329 u330 u331 u332 u333 u334 u335 u336 u337 u338 u339 u340 u341 u342 u343 u344 u345 u346 u347 u348 u349 u350 u351 u352 u353 u354 u355 u356 u357 u358 u359 u360 u361 u362 u363 u364 u365 u366 u367 u368 u369 u370 u371 u372 u373 u374 z15_ z16_ x216_3 BK397 HB k3 z17_ HK3 c66b0 c67b0 c68b0 HC69 ad424 A424_0 c424_0 hx424_0 HO400 HO404 z18_ z19_ z20_ z21_ HO_7 HO_214 ve424_0 HL424_0 HR424_0 HC424_0 p424 q424 z22_ z23_ z24_ z25_ z26_ z27_ z28_ z29_ z30_ z31_
                have H := HC69.out
                clear HC69
                by_cases c70 : ((rd_L2 t398 x216_3).length : Int) = 4
                ·
                 rw [if_pos c70] at H
                 have c70b0 : (((rd_L2 t398 x216_3).length : Int) == 4) = true := beq_iff_eq.mpr c70
                 have c70b1 : (((rd_L2 t398 x216_3).length : Int) != 4) = false := bne_eq_false_iff_eq.mpr c70
                 clear c70
                 (first | rw [c70b0] | (simp only [i64_w, i32_w]; rw [c70b0]) | skip)
                 by_cases c71 : 0 < ((rd_L2 t398 x216_3).length : Int)
                 ·
                  rw [if_pos c71] at H
                  have c71b0 : decide (0 < ((rd_L2 t398 x216_3).length : Int)) = true := decide_eq_true c71
                  have c71b1 : decide (0 < (rd_L2 t398 x216_3).length) = true := decide_eq_true (by omega)
                  clear c71
                  by_cases c72 : 1 < ((rd_L2 t398 x216_3).length : Int)
                  ·
                   rw [if_pos c72] at H
                   have c72b0 : decide (1 < ((rd_L2 t398 x216_3).length : Int)) = true := decide_eq_true c72
                   have c72b1 : decide (1 < (rd_L2 t398 x216_3).length) = true := decide_eq_true (by omega)
                   clear c72
                   replace H := Option.bind_eq_some_iff.mp H
                   obtain ⟨t427, A730, H⟩ := H
                   (try dsimp only at H)
                   have A73 := Aside0.mk A730
                   clear A730
                   by_cases c74 : t427 = true
                   ·
                    subst c74
                    rw [if_pos rfl] at H
                    by_cases c75 : 2 < ((rd_L2 t398 x216_3).length : Int)
                    ·
                     rw [if_pos c75] at H
                     have c75b0 : decide (2 < ((rd_L2 t398 x216_3).length : Int)) = true := decide_eq_true c75
                     have c75b1 : decide (2 < (rd_L2 t398 x216_3).length) = true := decide_eq_true (by omega)
                     clear c75
                     by_cases c76 : 3 < ((rd_L2 t398 x216_3).length : Int)
                     ·
                      rw [if_pos c76] at H
                      have c76b0 : decide (3 < ((rd_L2 t398 x216_3).length : Int)) = true := decide_eq_true c76
                      have c76b1 : decide (3 < (rd_L2 t398 x216_3).length) = true := decide_eq_true (by omega)
                      clear c76
                      replace H := Option.bind_eq_some_iff.mp H
                      obtain ⟨t430, A770, H⟩ := H
                      (try dsimp only at H)
                      have A77 := Aside0.mk A770
                      clear A770
                      by_cases c78 : t430 = true
                      ·
                       subst c78
                       rw [if_pos rfl] at H
                       by_cases c79 : x216_3 > 0
                       ·
                        rw [if_pos c79] at H
                        have c79b0 : decide (0 < x216_3) = true := decide_eq_true c79
                        clear c79
                        obtain ⟨ji80, hji80⟩ : ∃ j_ : Int, (wrap64 (x216_3 - 1)) = j_ := ⟨_, rfl⟩
                        replace H : (if 0 ≤ (ji80) then (if (ji80) < (t398.length : Int) then (if 0 < ((rd_L2 t398 (ji80)).length : Int) then (if 1 < ((rd_L2 t398 (ji80)).length : Int) then (if (wrap64 ((rd (rd_L2 t398 (ji80)) 0) * (rd (rd_L2 t398 x216_3) 1))) ≥ (wrap64 ((rd (rd_L2 t398 x216_3) 0) * (rd (rd_L2 t398 (ji80)) 1))) then (laws_FnDogsTurn.j3 k3 l1 t396 t398 x216_3 t398 (t398.length : Int) x216_3 (decide (t396 ≤ 3)) t392 t393 t394 t395) else (laws_FnDogsTurn.j3 k3 l1 t396 t398 x216_3 t398 (t398.length : Int) x216_3 false t392 t393 t394 t395)) else (none)) else (none)) else (none)) else (none)) = some r := by first | (rw [hji80] at H; exact H) | (simp only [hji80] at H ⊢; exact H)
                        (try rw [hji80] at A73)
                        (try rw [hji80] at A77)
                        have hji80w : (IntKind.i64.wrap (x216_3 - 1)) = ji80 := (i64_w _).trans hji80
                        by_cases c81 : 0 ≤ (ji80)
                        ·
                         rw [if_pos c81] at H
                         have c81b0 : decide (0 ≤ (ji80)) = true := decide_eq_true c81
                         clear c81
                         by_cases c82 : (ji80) < (t398.length : Int)
                         ·
                          rw [if_pos c82] at H
                          have c82b0 : decide ((ji80) < (t398.length : Int)) = true := decide_eq_true c82
                          clear c82
                          by_cases c83 : 0 < ((rd_L2 t398 (ji80)).length : Int)
                          ·
                           rw [if_pos c83] at H
                           have c83b0 : decide (0 < ((rd_L2 t398 (ji80)).length : Int)) = true := decide_eq_true c83
                           have c83b1 : decide (0 < (rd_L2 t398 (ji80)).length) = true := decide_eq_true (by omega)
                           clear c83
                           by_cases c84 : 1 < ((rd_L2 t398 (ji80)).length : Int)
                           ·
                            rw [if_pos c84] at H
                            have c84b0 : decide (1 < ((rd_L2 t398 (ji80)).length : Int)) = true := decide_eq_true c84
                            have c84b1 : decide (1 < (rd_L2 t398 (ji80)).length) = true := decide_eq_true (by omega)
                            clear c84
                            by_cases c85 : (wrap64 ((rd (rd_L2 t398 (ji80)) 0) * (rd (rd_L2 t398 x216_3) 1))) ≥ (wrap64 ((rd (rd_L2 t398 x216_3) 0) * (rd (rd_L2 t398 (ji80)) 1)))
                            ·
                             rw [if_pos c85] at H
                             have c85b0 : decide ((wrap64 ((rd (rd_L2 t398 x216_3) 0) * (rd (rd_L2 t398 (ji80)) 1))) ≤ (wrap64 ((rd (rd_L2 t398 (ji80)) 0) * (rd (rd_L2 t398 x216_3) 1)))) = true := decide_eq_true c85
                             clear c85
                             have H' := Aside0.mk H
                             clear H
                             try go_wp2
                             have n0_ := Aside0.mk (Kd.S_drew HO_7.out)
                             have n1_ := Aside0.mk (Kd.S_drew HO_214.out)
                             have n2_ := Aside0.mk (Kd.R_drew HL424_0.out)
                             have n3_ := Aside0.mk (blk_drew BK397.out)
                             have n4_ := Aside0.mk (Kd.C_drew HR424_0.out)
                             have n5_ := Aside0.mk (below_drew1 HB.out)
                             clear HO_7
                             clear HO_214
                             clear HL424_0
                             clear BK397
                             clear HR424_0
                             clear HB
                             have HO_7 := n0_
                             have HO_214 := n1_
                             have HL424_0 := n2_
                             have BK397 := n3_
                             have HR424_0 := n4_
                             have HB := n5_
                             clear n0_ n1_ n2_ n3_ n4_ n5_
                             have p425 : 0 ≤ (0 : Int) := (by omega)
                             have q425 : 0 < ((rd_L2 t398 x216_3).length : Int) := of_decide_eq_true (by first | (with_reducible assumption) | assumption)
                             obtain ⟨ad425, e425, hx425_0⟩ := Kd.at_int (by repeat (first | (with_reducible exact HR424_0.out) | (with_reducible refine Kd.C_alloc ?_ _) | (with_reducible refine Kd.C_drewN ?_ _) | (with_reducible refine Kd.C_drew ?_) | exact HR424_0.out)) 0 p425 q425
                             cases e425
                             have qi425 : (0 < (rd_L2 t398 x216_3).length) = True := eq_true (by omega)
                             (try rw [show ((0 : Int)).toNat = 0 from rfl] at hx425_0)
                             (try rw [Addr.add_zero'] at hx425_0)
                             replace p425 := eq_true p425
                             replace q425 := eq_true q425
                             have p426 : 0 ≤ (1 : Int) := (by omega)
                             have q426 : 1 < ((rd_L2 t398 x216_3).length : Int) := of_decide_eq_true (by first | (with_reducible assumption) | assumption)
                             obtain ⟨ad426, e426, hx426_0⟩ := Kd.at_int (by repeat (first | (with_reducible exact HR424_0.out) | (with_reducible refine Kd.C_alloc ?_ _) | (with_reducible refine Kd.C_drewN ?_ _) | (with_reducible refine Kd.C_drew ?_) | exact HR424_0.out)) 1 p426 q426
                             obtain rfl : ad425 = ad426 := (by injection e426)
                             (try simp only [show (1 : Int).toNat = 1 from rfl, Nat.reduceMul, Nat.reduceEqDiff, Go.Addr.add, ↓reduceIte] at hx426_0)
                             have qi426 : (1 < (rd_L2 t398 x216_3).length) = True := eq_true (by omega)
                             (try rw [show ((1 : Int)).toNat = 1 from rfl] at hx426_0)
                             replace p426 := eq_true p426
                             replace q426 := eq_true q426
                             have p431 : 0 ≤ ((ji80) : Int) := of_decide_eq_true (by first | (with_reducible assumption) | assumption)
                             have q431 : (ji80) < (t398.length : Int) := of_decide_eq_true (by first | (with_reducible assumption) | assumption)
                             obtain ⟨ad431, A431_0, c431_0, e431, hx431_0, hl431_0, hi431_0⟩ := at_L2 (Kd.S_reads' HO_7.out).2.2 (ji80) p431 q431
                             obtain rfl : ad424 = ad431 := (by injection e431)
                             obtain ⟨ce431, hce431, hMe431, hcc431⟩ := Kd.S_get HO_7.out [] (ji80) p431 (by first | exact q431 | exact of_decide_eq_true (by first | (with_reducible assumption) | assumption) | (have e_ := (Kd.S_reads' HO_7.out).1; omega))
                             obtain ⟨ve431_0, rfl, ge431_0⟩ := hMe431
                             have hv431_0 := hcc431 0 _ rfl
                             rw [Nat.add_zero, show ((Kd.slice 3 (Kd.int .i64))).sz = 1 from rfl, Nat.mul_one] at hv431_0
                             replace hv431_0 := Option.some.inj (hv431_0.symm.trans hx431_0)
                             rw [hv431_0] at ge431_0
                             have HL431_0 := Aside0.mk (show Kd.R (Kd.int .i64) 3 _ _ _ _ (rd_L2 t398 (ji80)) from ge431_0)
                             clear hv431_0 ge431_0
                             clear hcc431 hce431
                             have HR431_0 := Aside0.mk hi431_0
                             have HC431_0 := Aside0.mk hl431_0
                             clear hi431_0 hl431_0
                             replace p431 := eq_true p431
                             replace q431 := eq_true q431
                             have p435 : 0 ≤ ((ji80) : Int) := of_decide_eq_true (by first | (with_reducible assumption) | assumption)
                             have q435 : (ji80) < (t398.length : Int) := of_decide_eq_true (by first | (with_reducible assumption) | assumption)
                             obtain ⟨ad435, A435_0, c435_0, e435, hx435_0, hl435_0, hi435_0⟩ := at_L2 (Kd.S_reads' HO_7.out).2.2 (ji80) p435 q435
                             obtain rfl : ad424 = ad435 := (by injection e435)
                             obtain ⟨ce435, hce435, hMe435, hcc435⟩ := Kd.S_get HO_7.out [] (ji80) p435 (by first | exact q435 | exact of_decide_eq_true (by first | (with_reducible assumption) | assumption) | (have e_ := (Kd.S_reads' HO_7.out).1; omega))
                             obtain ⟨ve435_0, rfl, ge435_0⟩ := hMe435
                             have hv435_0 := hcc435 0 _ rfl
                             rw [Nat.add_zero, show ((Kd.slice 3 (Kd.int .i64))).sz = 1 from rfl, Nat.mul_one] at hv435_0
                             replace hv435_0 := Option.some.inj (hv435_0.symm.trans hx435_0)
                             rw [hv435_0] at ge435_0
                             have HL435_0 := Aside0.mk (show Kd.R (Kd.int .i64) 3 _ _ _ _ (rd_L2 t398 (ji80)) from ge435_0)
                             clear hv435_0 ge435_0
                             clear hcc435 hce435
                             have HR435_0 := Aside0.mk hi435_0
                             have HC435_0 := Aside0.mk hl435_0
                             clear hi435_0 hl435_0
                             replace p435 := eq_true p435
                             replace q435 := eq_true q435
                             have ea_ := Option.some.inj (hx431_0.symm.trans hx435_0)
                             injection ea_ with ea_ en_ ec_
                             subst ea_
                             subst ec_
                             clear en_
                             have p428 : 0 ≤ (2 : Int) := (by omega)
                             have q428 : 2 < ((rd_L2 t398 x216_3).length : Int) := of_decide_eq_true (by first | (with_reducible assumption) | assumption)
                             obtain ⟨ad428, e428, hx428_0⟩ := Kd.at_int (by repeat (first | (with_reducible exact HR424_0.out) | (with_reducible refine Kd.C_alloc ?_ _) | (with_reducible refine Kd.C_drewN ?_ _) | (with_reducible refine Kd.C_drew ?_) | exact HR424_0.out)) 2 p428 q428
                             obtain rfl : ad425 = ad428 := (by injection e428)
                             (try simp only [show (2 : Int).toNat = 2 from rfl, Nat.reduceMul, Nat.reduceEqDiff, Go.Addr.add, ↓reduceIte] at hx428_0)
                             have qi428 : (2 < (rd_L2 t398 x216_3).length) = True := eq_true (by omega)
                             (try rw [show ((2 : Int)).toNat = 2 from rfl] at hx428_0)
                             replace p428 := eq_true p428
                             replace q428 := eq_true q428
                             have p429 : 0 ≤ (3 : Int) := (by omega)
                             have q429 : 3 < ((rd_L2 t398 x216_3).length : Int) := of_decide_eq_true (by first | (with_reducible assumption) | assumption)
                             obtain ⟨ad429, e429, hx429_0⟩ := Kd.at_int (by repeat (first | (with_reducible exact HR424_0.out) | (with_reducible refine Kd.C_alloc ?_ _) | (with_reducible refine Kd.C_drewN ?_ _) | (with_reducible refine Kd.C_drew ?_) | exact HR424_0.out)) 3 p429 q429
                             obtain rfl : ad425 = ad429 := (by injection e429)
                             (try simp only [show (3 : Int).toNat = 3 from rfl, Nat.reduceMul, Nat.reduceEqDiff, Go.Addr.add, ↓reduceIte] at hx429_0)
                             have qi429 : (3 < (rd_L2 t398 x216_3).length) = True := eq_true (by omega)
                             (try rw [show ((3 : Int)).toNat = 3 from rfl] at hx429_0)
                             replace p429 := eq_true p429
                             replace q429 := eq_true q429
                             have p432 : 0 ≤ (0 : Int) := (by omega)
                             have q432 : 0 < ((rd_L2 t398 (ji80)).length : Int) := of_decide_eq_true (by first | (with_reducible assumption) | assumption)
                             obtain ⟨ad432, e432, hx432_0⟩ := Kd.at_int (by repeat (first | (with_reducible exact HR431_0.out) | (with_reducible refine Kd.C_alloc ?_ _) | (with_reducible refine Kd.C_drewN ?_ _) | (with_reducible refine Kd.C_drew ?_) | exact HR431_0.out)) 0 p432 q432
                             cases e432
                             have qi432 : (0 < (rd_L2 t398 (ji80)).length) = True := eq_true (by omega)
                             (try rw [show ((0 : Int)).toNat = 0 from rfl] at hx432_0)
                             (try rw [Addr.add_zero'] at hx432_0)
                             replace p432 := eq_true p432
                             replace q432 := eq_true q432
                             have p433 : 0 ≤ (1 : Int) := (by omega)
                             have q433 : 1 < ((rd_L2 t398 x216_3).length : Int) := of_decide_eq_true (by first | (with_reducible assumption) | assumption)
                             obtain ⟨ad433, e433, hx433_0⟩ := Kd.at_int (by repeat (first | (with_reducible exact HR424_0.out) | (with_reducible refine Kd.C_alloc ?_ _) | (with_reducible refine Kd.C_drewN ?_ _) | (with_reducible refine Kd.C_drew ?_) | exact HR424_0.out)) 1 p433 q433
                             obtain rfl : ad425 = ad433 := (by injection e433)
                             (try simp only [show (1 : Int).toNat = 1 from rfl, Nat.reduceMul, Nat.reduceEqDiff, Go.Addr.add, ↓reduceIte] at hx433_0)
                             have qi433 : (1 < (rd_L2 t398 x216_3).length) = True := eq_true (by omega)
                             (try rw [show ((1 : Int)).toNat = 1 from rfl] at hx433_0)
                             replace p433 := eq_true p433
                             replace q433 := eq_true q433
                             have p434 : 0 ≤ (0 : Int) := (by omega)
                             have q434 : 0 < ((rd_L2 t398 x216_3).length : Int) := of_decide_eq_true (by first | (with_reducible assumption) | assumption)
                             obtain ⟨ad434, e434, hx434_0⟩ := Kd.at_int (by repeat (first | (with_reducible exact HR424_0.out) | (with_reducible refine Kd.C_alloc ?_ _) | (with_reducible refine Kd.C_drewN ?_ _) | (with_reducible refine Kd.C_drew ?_) | exact HR424_0.out)) 0 p434 q434
                             obtain rfl : ad425 = ad434 := (by injection e434)
                             have qi434 : (0 < (rd_L2 t398 x216_3).length) = True := eq_true (by omega)
                             (try rw [show ((0 : Int)).toNat = 0 from rfl] at hx434_0)
                             (try rw [Addr.add_zero'] at hx434_0)
                             replace p434 := eq_true p434
                             replace q434 := eq_true q434
                             have p436 : 0 ≤ (1 : Int) := (by omega)
                             have q436 : 1 < ((rd_L2 t398 (ji80)).length : Int) := of_decide_eq_true (by first | (with_reducible assumption) | assumption)
                             obtain ⟨ad436, e436, hx436_0⟩ := Kd.at_int (by repeat (first | (with_reducible exact HR435_0.out) | (with_reducible refine Kd.C_alloc ?_ _) | (with_reducible refine Kd.C_drewN ?_ _) | (with_reducible refine Kd.C_drew ?_) | exact HR435_0.out)) 1 p436 q436
                             obtain rfl : ad432 = ad436 := (by injection e436)
                             (try simp only [show (1 : Int).toNat = 1 from rfl, Nat.reduceMul, Nat.reduceEqDiff, Go.Addr.add, ↓reduceIte] at hx436_0)
                             have qi436 : (1 < (rd_L2 t398 (ji80)).length) = True := eq_true (by omega)
                             (try rw [show ((1 : Int)).toNat = 1 from rfl] at hx436_0)
                             replace p436 := eq_true p436
                             replace q436 := eq_true q436
                             refine start_ (n := 56) (S := fun w' => w'.cell? ad425 = some (.int .i64 (rd (rd_L2 t398 x216_3) 0)) ∧ w'.cell? ⟨ad425.block, ad425.off + 1, none⟩ = some (.int .i64 (rd (rd_L2 t398 x216_3) 1)) ∧ w'.cell? ⟨ad425.block, ad425.off + 2, none⟩ = some (.int .i64 (rd (rd_L2 t398 x216_3) 2)) ∧ w'.cell? ⟨ad425.block, ad425.off + 3, none⟩ = some (.int .i64 (rd (rd_L2 t398 x216_3) 3)) ∧ w'.cell? (ad424.add ((ji80)).toNat) = some (.slice (some ad432) (rd_L2 t398 (ji80)).length c431_0) ∧ w'.cell? ad432 = some (.int .i64 (rd (rd_L2 t398 (ji80)) 0)) ∧ w'.cell? ⟨ad425.block, ad425.off + 1, none⟩ = some (.int .i64 (rd (rd_L2 t398 x216_3) 1)) ∧ w'.cell? ad425 = some (.int .i64 (rd (rd_L2 t398 x216_3) 0)) ∧ w'.cell? (ad424.add ((ji80)).toNat) = some (.slice (some ad432) (rd_L2 t398 (ji80)).length c431_0) ∧ w'.cell? ⟨ad432.block, ad432.off + 1, none⟩ = some (.int .i64 (rd (rd_L2 t398 (ji80)) 1))) (ds := []) #[false, false, false, false, false, false, false, false, false, false, false, false, false, false, false, false, false, false, false, false, false, false, false, false, false, false, false, false, false, false, false, false, false, false, false, false, false, false, false, false, false, false, false, false, false, false, false, false, false, false, false, false, false, false, false, false] (by kernel_rfl) rfl rfl ⟨hx425_0, hx426_0, hx428_0, hx429_0, hx431_0, hx432_0, hx433_0, hx434_0, hx435_0, hx436_0⟩ (fun hHeld => ?_); refine with_tabW laws_FnDogsTurn.tab18 laws_FnDogsTurn.bits18 (fun HT_ HW_ => ?_)
                             generalize wr.drew = w86 at HO_7 HO_214 HL424_0 BK397 HR424_0 HB HL431_0 HL435_0 HR431_0 HR435_0 hx425_0 hx426_0 hx431_0 hx435_0 hx428_0 hx429_0 hx432_0 hx433_0 hx434_0 hx436_0 hHeld ⊢
                             refine pu_ 0 221 56 1 ?_
                             refine pu_ 1 222 56 3 ?_
                             refine pu_ 2 223 56 7 ?_
                             refine pu_ 3 224 56 15 ?_
                             refine pu_ 4 225 56 31 ?_
                             refine pu_ 5 226 56 63 ?_
                             refine pu_ 7 228 56 191 ?_
                             refine pu_ 8 229 56 447 ?_
                             refine tk_ 6 227 56 511 hHeld ?_
                             refine tk_ 9 230 56 1023 hHeld ?_
                             refine one_ (i := 10) (N := some 231) (pm_ 56 2047) rfl rfl (one_of HT_.out (by kernel_rfl)) (by decide) (fun K hK => ?_)
                             refine goes_ Tryz.func15 (by kernel_rfl) rfl #[.int .i64 (rd (rd_L2 t398 x216_3) 0), .int .i64 (rd (rd_L2 t398 x216_3) 1)] (by rfl) rfl rfl (by (try simp only [List.map_toArray, List.map_cons, List.map_nil]); first | done | rfl | (simp only [List.length_drop, List.length_take]; rfl)) ?_
                             with_reducible refine (laws_yLow.calls k3 (rd (rd_L2 t398 x216_3) 0) (rd (rd_L2 t398 x216_3) 1) true _ A73.out).mono ?_
                             rintro e w' ⟨rfl, ⟨nd, rfl⟩⟩
                             refine ⟨_, rfl, ?_⟩
                             refine hK.out _ _ ⟨hHeld.1, hHeld.2.1, hHeld.2.2.1, hHeld.2.2.2.1, hHeld.2.2.2.2.1, hHeld.2.2.2.2.2.1, hHeld.2.2.2.2.2.2.1, hHeld.2.2.2.2.2.2.2.1, hHeld.2.2.2.2.2.2.2.2.1, hHeld.2.2.2.2.2.2.2.2.2⟩ (fun hHeld => ?_)
                             clear hK K
                             refine norm_ (a' := ?_) ?_ ?_
                             rotate_left
                             ·
                              show Act.put _ (some 231) _ = _
                              simp only [Act.put, List.setIfInBounds_toArray, List.set_cons_zero, List.set_cons_succ, i64_w, i32_w]
                              rfl
                             refine pu_ 11 232 56 4095 ?_
                             refine pu_ 12 233 56 8191 ?_
                             refine pu_ 13 234 56 16383 ?_
                             refine pu_ 14 235 56 32767 ?_
                             refine pu_ 15 236 56 65535 ?_
                             refine pu_ 17 238 56 196607 ?_
                             refine pu_ 18 239 56 458751 ?_
                             refine tk_ 16 237 56 524287 hHeld ?_
                             refine tk_ 19 240 56 1048575 hHeld ?_
                             refine one_ (i := 20) (N := some 241) (pm_ 56 2097151) rfl rfl (one_of HT_.out (by kernel_rfl)) (by decide) (fun K hK => ?_)
                             refine goes_ Tryz.func15 (by kernel_rfl) rfl #[.int .i64 (rd (rd_L2 t398 x216_3) 2), .int .i64 (rd (rd_L2 t398 x216_3) 3)] (by rfl) rfl rfl (by (try simp only [List.map_toArray, List.map_cons, List.map_nil]); first | done | rfl | (simp only [List.length_drop, List.length_take]; rfl)) ?_
                             with_reducible refine (laws_yLow.calls k3 (rd (rd_L2 t398 x216_3) 2) (rd (rd_L2 t398 x216_3) 3) true _ A77.out).mono ?_
                             rintro e w' ⟨rfl, ⟨nd, rfl⟩⟩
                             refine ⟨_, rfl, ?_⟩
                             refine hK.out _ _ ⟨hHeld.1, hHeld.2.1, hHeld.2.2.1, hHeld.2.2.2.1, hHeld.2.2.2.2.1, hHeld.2.2.2.2.2.1, hHeld.2.2.2.2.2.2.1, hHeld.2.2.2.2.2.2.2.1, hHeld.2.2.2.2.2.2.2.2.1, hHeld.2.2.2.2.2.2.2.2.2⟩ (fun hHeld => ?_)
                             clear hK K
                             refine norm_ (a' := ?_) ?_ ?_
                             rotate_left
                             ·
                              show Act.put _ (some 241) _ = _
                              simp only [Act.put, List.setIfInBounds_toArray, List.set_cons_zero, List.set_cons_succ, i64_w, i32_w]
                              rfl
                             refine pu_ 21 242 56 4194303 ?_
                             refine pu_ 22 243 56 8388607 ?_
                             refine pu_ 23 244 56 16777215 ?_
                             refine pu_ 24 245 56 33554431 ?_
                             refine pu_ 25 246 56 67108863 ?_
                             refine pu_ 26 247 56 134217727 ?_
                             refine pu_ 27 248 56 268435455 ?_
                             refine pu_ 28 249 56 536870911 ?_
                             refine pu_ 29 250 56 1073741823 ?_
                             refine pu_ 30 251 56 2147483647 ?_
                             refine pu_ 34 255 56 19327352831 ?_
                             refine pu_ 35 256 56 53687091199 ?_
                             refine pu_ 38 259 56 328564998143 ?_
                             refine pu_ 39 260 56 878320812031 ?_
                             refine pu_ 41 262 56 3077344067583 ?_
                             refine pu_ 42 263 56 7475390578687 ?_
                             refine pu_ 43 264 56 16271483600895 ?_
                             refine pu_ 44 265 56 33863669645311 ?_
                             refine tk_ 31 252 56 33865817128959 hHeld ?_
                             refine pu_ 32 253 56 33870112096255 ?_
                             refine tk_ 33 254 56 33878702030847 hHeld ?_
                             refine tk_ 36 257 56 33947421507583 hHeld ?_
                             refine pu_ 37 258 56 34084860461055 ?_
                             refine tk_ 40 261 56 35184372088831 hHeld ?_
                             refine tk_ 45 266 56 70368744177663 hHeld ?_
                             refine pu_ 46 267 56 140737488355327 ?_
                             refine tk_ 47 268 56 281474976710655 hHeld ?_
                             refine pu_ 48 269 56 562949953421311 ?_
                             refine pu_ 49 270 56 1125899906842623 ?_
                             refine pu_ 50 271 56 2251799813685247 ?_
                             refine pu_ 51 272 56 4503599627370495 ?_
                             refine pu_ 52 273 56 9007199254740991 ?_
                             refine pu_ 53 274 56 18014398509481983 ?_
                             refine pu_ 54 275 56 36028797018963967 ?_
                             refine pu_ 55 276 56 72057594037927935 ?_
                             refine done_ (done_of HT_.out (by kernel_rfl)) ?_
                             try go_wp2
                             go_meet
                             case rel => exact ⟨_, (decide (t396 ≤ 3)), (by first | rfl | (simp; done) | (simp [*]; done)), H', ⟨by have := HJ11.out; have := HJ56.out; have := HK3.out; first | omega | exact Nat.le_refl _⟩, ⟨by (with_reducible repeat (first | apply Kd.S_alloc | apply Kd.S_drewN | apply Kd.S_drew)); exact HO_7.out⟩, ⟨by (with_reducible repeat (first | apply Kd.S_alloc | apply Kd.S_drewN | apply Kd.S_drew)); exact HO_214.out⟩, ⟨bk_⟩, ⟨by repeat (first | (with_reducible exact HR424_0.out) | (with_reducible refine Kd.C_alloc ?_ _) | (with_reducible refine Kd.C_drewN ?_ _) | (with_reducible refine Kd.C_drew ?_) | exact HR424_0.out)⟩, ⟨bw_⟩⟩
                            ·
                             rw [if_neg c85] at H
                             have c85b0 : decide ((wrap64 ((rd (rd_L2 t398 x216_3) 0) * (rd (rd_L2 t398 (ji80)) 1))) ≤ (wrap64 ((rd (rd_L2 t398 (ji80)) 0) * (rd (rd_L2 t398 x216_3) 1)))) = false := decide_eq_false c85
                             clear c85
                             have H' := Aside0.mk H
                             clear H
                             try go_wp2
                             have n0_ := Aside0.mk (Kd.S_drew HO_7.out)
                             have n1_ := Aside0.mk (Kd.S_drew HO_214.out)
                             have n2_ := Aside0.mk (Kd.R_drew HL424_0.out)
                             have n3_ := Aside0.mk (blk_drew BK397.out)
                             have n4_ := Aside0.mk (Kd.C_drew HR424_0.out)
                             have n5_ := Aside0.mk (below_drew1 HB.out)
                             clear HO_7
                             clear HO_214
                             clear HL424_0
                             clear BK397
                             clear HR424_0
                             clear HB
                             have HO_7 := n0_
                             have HO_214 := n1_
                             have HL424_0 := n2_
                             have BK397 := n3_
                             have HR424_0 := n4_
                             have HB := n5_
                             clear n0_ n1_ n2_ n3_ n4_ n5_
                             have p425 : 0 ≤ (0 : Int) := (by omega)
                             have q425 : 0 < ((rd_L2 t398 x216_3).length : Int) := of_decide_eq_true (by first | (with_reducible assumption) | assumption)
                             obtain ⟨ad425, e425, hx425_0⟩ := Kd.at_int (by repeat (first | (with_reducible exact HR424_0.out) | (with_reducible refine Kd.C_alloc ?_ _) | (with_reducible refine Kd.C_drewN ?_ _) | (with_reducible refine Kd.C_drew ?_) | exact HR424_0.out)) 0 p425 q425
                             cases e425
                             have qi425 : (0 < (rd_L2 t398 x216_3).length) = True := eq_true (by omega)
                             (try rw [show ((0 : Int)).toNat = 0 from rfl] at hx425_0)
                             (try rw [Addr.add_zero'] at hx425_0)
                             replace p425 := eq_true p425
                             replace q425 := eq_true q425
                             have p426 : 0 ≤ (1 : Int) := (by omega)
                             have q426 : 1 < ((rd_L2 t398 x216_3).length : Int) := of_decide_eq_true (by first | (with_reducible assumption) | assumption)
                             obtain ⟨ad426, e426, hx426_0⟩ := Kd.at_int (by repeat (first | (with_reducible exact HR424_0.out) | (with_reducible refine Kd.C_alloc ?_ _) | (with_reducible refine Kd.C_drewN ?_ _) | (with_reducible refine Kd.C_drew ?_) | exact HR424_0.out)) 1 p426 q426
                             obtain rfl : ad425 = ad426 := (by injection e426)
                             (try simp only [show (1 : Int).toNat = 1 from rfl, Nat.reduceMul, Nat.reduceEqDiff, Go.Addr.add, ↓reduceIte] at hx426_0)
                             have qi426 : (1 < (rd_L2 t398 x216_3).length) = True := eq_true (by omega)
                             (try rw [show ((1 : Int)).toNat = 1 from rfl] at hx426_0)
                             replace p426 := eq_true p426
                             replace q426 := eq_true q426
                             have p431 : 0 ≤ ((ji80) : Int) := of_decide_eq_true (by first | (with_reducible assumption) | assumption)
                             have q431 : (ji80) < (t398.length : Int) := of_decide_eq_true (by first | (with_reducible assumption) | assumption)
                             obtain ⟨ad431, A431_0, c431_0, e431, hx431_0, hl431_0, hi431_0⟩ := at_L2 (Kd.S_reads' HO_7.out).2.2 (ji80) p431 q431
                             obtain rfl : ad424 = ad431 := (by injection e431)
                             obtain ⟨ce431, hce431, hMe431, hcc431⟩ := Kd.S_get HO_7.out [] (ji80) p431 (by first | exact q431 | exact of_decide_eq_true (by first | (with_reducible assumption) | assumption) | (have e_ := (Kd.S_reads' HO_7.out).1; omega))
                             obtain ⟨ve431_0, rfl, ge431_0⟩ := hMe431
                             have hv431_0 := hcc431 0 _ rfl
                             rw [Nat.add_zero, show ((Kd.slice 3 (Kd.int .i64))).sz = 1 from rfl, Nat.mul_one] at hv431_0
                             replace hv431_0 := Option.some.inj (hv431_0.symm.trans hx431_0)
                             rw [hv431_0] at ge431_0
                             have HL431_0 := Aside0.mk (show Kd.R (Kd.int .i64) 3 _ _ _ _ (rd_L2 t398 (ji80)) from ge431_0)
                             clear hv431_0 ge431_0
                             clear hcc431 hce431
                             have HR431_0 := Aside0.mk hi431_0
                             have HC431_0 := Aside0.mk hl431_0
                             clear hi431_0 hl431_0
                             replace p431 := eq_true p431
                             replace q431 := eq_true q431
                             have p435 : 0 ≤ ((ji80) : Int) := of_decide_eq_true (by first | (with_reducible assumption) | assumption)
                             have q435 : (ji80) < (t398.length : Int) := of_decide_eq_true (by first | (with_reducible assumption) | assumption)
                             obtain ⟨ad435, A435_0, c435_0, e435, hx435_0, hl435_0, hi435_0⟩ := at_L2 (Kd.S_reads' HO_7.out).2.2 (ji80) p435 q435
                             obtain rfl : ad424 = ad435 := (by injection e435)
                             obtain ⟨ce435, hce435, hMe435, hcc435⟩ := Kd.S_get HO_7.out [] (ji80) p435 (by first | exact q435 | exact of_decide_eq_true (by first | (with_reducible assumption) | assumption) | (have e_ := (Kd.S_reads' HO_7.out).1; omega))
                             obtain ⟨ve435_0, rfl, ge435_0⟩ := hMe435
                             have hv435_0 := hcc435 0 _ rfl
                             rw [Nat.add_zero, show ((Kd.slice 3 (Kd.int .i64))).sz = 1 from rfl, Nat.mul_one] at hv435_0
                             replace hv435_0 := Option.some.inj (hv435_0.symm.trans hx435_0)
                             rw [hv435_0] at ge435_0
                             have HL435_0 := Aside0.mk (show Kd.R (Kd.int .i64) 3 _ _ _ _ (rd_L2 t398 (ji80)) from ge435_0)
                             clear hv435_0 ge435_0
                             clear hcc435 hce435
                             have HR435_0 := Aside0.mk hi435_0
                             have HC435_0 := Aside0.mk hl435_0
                             clear hi435_0 hl435_0
                             replace p435 := eq_true p435
                             replace q435 := eq_true q435
                             have ea_ := Option.some.inj (hx431_0.symm.trans hx435_0)
                             injection ea_ with ea_ en_ ec_
                             subst ea_
                             subst ec_
                             clear en_
                             have p428 : 0 ≤ (2 : Int) := (by omega)
                             have q428 : 2 < ((rd_L2 t398 x216_3).length : Int) := of_decide_eq_true (by first | (with_reducible assumption) | assumption)
                             obtain ⟨ad428, e428, hx428_0⟩ := Kd.at_int (by repeat (first | (with_reducible exact HR424_0.out) | (with_reducible refine Kd.C_alloc ?_ _) | (with_reducible refine Kd.C_drewN ?_ _) | (with_reducible refine Kd.C_drew ?_) | exact HR424_0.out)) 2 p428 q428
                             obtain rfl : ad425 = ad428 := (by injection e428)
                             (try simp only [show (2 : Int).toNat = 2 from rfl, Nat.reduceMul, Nat.reduceEqDiff, Go.Addr.add, ↓reduceIte] at hx428_0)
                             have qi428 : (2 < (rd_L2 t398 x216_3).length) = True := eq_true (by omega)
                             (try rw [show ((2 : Int)).toNat = 2 from rfl] at hx428_0)
                             replace p428 := eq_true p428
                             replace q428 := eq_true q428
                             have p429 : 0 ≤ (3 : Int) := (by omega)
                             have q429 : 3 < ((rd_L2 t398 x216_3).length : Int) := of_decide_eq_true (by first | (with_reducible assumption) | assumption)
                             obtain ⟨ad429, e429, hx429_0⟩ := Kd.at_int (by repeat (first | (with_reducible exact HR424_0.out) | (with_reducible refine Kd.C_alloc ?_ _) | (with_reducible refine Kd.C_drewN ?_ _) | (with_reducible refine Kd.C_drew ?_) | exact HR424_0.out)) 3 p429 q429
                             obtain rfl : ad425 = ad429 := (by injection e429)
                             (try simp only [show (3 : Int).toNat = 3 from rfl, Nat.reduceMul, Nat.reduceEqDiff, Go.Addr.add, ↓reduceIte] at hx429_0)
                             have qi429 : (3 < (rd_L2 t398 x216_3).length) = True := eq_true (by omega)
                             (try rw [show ((3 : Int)).toNat = 3 from rfl] at hx429_0)
                             replace p429 := eq_true p429
                             replace q429 := eq_true q429
                             have p432 : 0 ≤ (0 : Int) := (by omega)
                             have q432 : 0 < ((rd_L2 t398 (ji80)).length : Int) := of_decide_eq_true (by first | (with_reducible assumption) | assumption)
                             obtain ⟨ad432, e432, hx432_0⟩ := Kd.at_int (by repeat (first | (with_reducible exact HR431_0.out) | (with_reducible refine Kd.C_alloc ?_ _) | (with_reducible refine Kd.C_drewN ?_ _) | (with_reducible refine Kd.C_drew ?_) | exact HR431_0.out)) 0 p432 q432
                             cases e432
                             have qi432 : (0 < (rd_L2 t398 (ji80)).length) = True := eq_true (by omega)
                             (try rw [show ((0 : Int)).toNat = 0 from rfl] at hx432_0)
                             (try rw [Addr.add_zero'] at hx432_0)
                             replace p432 := eq_true p432
                             replace q432 := eq_true q432
                             have p433 : 0 ≤ (1 : Int) := (by omega)
                             have q433 : 1 < ((rd_L2 t398 x216_3).length : Int) := of_decide_eq_true (by first | (with_reducible assumption) | assumption)
                             obtain ⟨ad433, e433, hx433_0⟩ := Kd.at_int (by repeat (first | (with_reducible exact HR424_0.out) | (with_reducible refine Kd.C_alloc ?_ _) | (with_reducible refine Kd.C_drewN ?_ _) | (with_reducible refine Kd.C_drew ?_) | exact HR424_0.out)) 1 p433 q433
                             obtain rfl : ad425 = ad433 := (by injection e433)
                             (try simp only [show (1 : Int).toNat = 1 from rfl, Nat.reduceMul, Nat.reduceEqDiff, Go.Addr.add, ↓reduceIte] at hx433_0)
                             have qi433 : (1 < (rd_L2 t398 x216_3).length) = True := eq_true (by omega)
                             (try rw [show ((1 : Int)).toNat = 1 from rfl] at hx433_0)
                             replace p433 := eq_true p433
                             replace q433 := eq_true q433
                             have p434 : 0 ≤ (0 : Int) := (by omega)
                             have q434 : 0 < ((rd_L2 t398 x216_3).length : Int) := of_decide_eq_true (by first | (with_reducible assumption) | assumption)
                             obtain ⟨ad434, e434, hx434_0⟩ := Kd.at_int (by repeat (first | (with_reducible exact HR424_0.out) | (with_reducible refine Kd.C_alloc ?_ _) | (with_reducible refine Kd.C_drewN ?_ _) | (with_reducible refine Kd.C_drew ?_) | exact HR424_0.out)) 0 p434 q434
                             obtain rfl : ad425 = ad434 := (by injection e434)
                             have qi434 : (0 < (rd_L2 t398 x216_3).length) = True := eq_true (by omega)
                             (try rw [show ((0 : Int)).toNat = 0 from rfl] at hx434_0)
                             (try rw [Addr.add_zero'] at hx434_0)
                             replace p434 := eq_true p434
                             replace q434 := eq_true q434
                             have p436 : 0 ≤ (1 : Int) := (by omega)
                             have q436 : 1 < ((rd_L2 t398 (ji80)).length : Int) := of_decide_eq_true (by first | (with_reducible assumption) | assumption)
                             obtain ⟨ad436, e436, hx436_0⟩ := Kd.at_int (by repeat (first | (with_reducible exact HR435_0.out) | (with_reducible refine Kd.C_alloc ?_ _) | (with_reducible refine Kd.C_drewN ?_ _) | (with_reducible refine Kd.C_drew ?_) | exact HR435_0.out)) 1 p436 q436
                             obtain rfl : ad432 = ad436 := (by injection e436)
                             (try simp only [show (1 : Int).toNat = 1 from rfl, Nat.reduceMul, Nat.reduceEqDiff, Go.Addr.add, ↓reduceIte] at hx436_0)
                             have qi436 : (1 < (rd_L2 t398 (ji80)).length) = True := eq_true (by omega)
                             (try rw [show ((1 : Int)).toNat = 1 from rfl] at hx436_0)
                             replace p436 := eq_true p436
                             replace q436 := eq_true q436
                             refine start_ (n := 56) (S := fun w' => w'.cell? ad425 = some (.int .i64 (rd (rd_L2 t398 x216_3) 0)) ∧ w'.cell? ⟨ad425.block, ad425.off + 1, none⟩ = some (.int .i64 (rd (rd_L2 t398 x216_3) 1)) ∧ w'.cell? ⟨ad425.block, ad425.off + 2, none⟩ = some (.int .i64 (rd (rd_L2 t398 x216_3) 2)) ∧ w'.cell? ⟨ad425.block, ad425.off + 3, none⟩ = some (.int .i64 (rd (rd_L2 t398 x216_3) 3)) ∧ w'.cell? (ad424.add ((ji80)).toNat) = some (.slice (some ad432) (rd_L2 t398 (ji80)).length c431_0) ∧ w'.cell? ad432 = some (.int .i64 (rd (rd_L2 t398 (ji80)) 0)) ∧ w'.cell? ⟨ad425.block, ad425.off + 1, none⟩ = some (.int .i64 (rd (rd_L2 t398 x216_3) 1)) ∧ w'.cell? ad425 = some (.int .i64 (rd (rd_L2 t398 x216_3) 0)) ∧ w'.cell? (ad424.add ((ji80)).toNat) = some (.slice (some ad432) (rd_L2 t398 (ji80)).length c431_0) ∧ w'.cell? ⟨ad432.block, ad432.off + 1, none⟩ = some (.int .i64 (rd (rd_L2 t398 (ji80)) 1))) (ds := []) #[false, false, false, false, false, false, false, false, false, false, false, false, false, false, false, false, false, false, false, false, false, false, false, false, false, false, false, false, false, false, false, false, false, false, false, false, false, false, false, false, false, false, false, false, false, false, false, false, false, false, false, false, false, false, false, false] (by kernel_rfl) rfl rfl ⟨hx425_0, hx426_0, hx428_0, hx429_0, hx431_0, hx432_0, hx433_0, hx434_0, hx435_0, hx436_0⟩ (fun hHeld => ?_); refine with_tabW laws_FnDogsTurn.tab18 laws_FnDogsTurn.bits18 (fun HT_ HW_ => ?_)
                             generalize wr.drew = w87 at HO_7 HO_214 HL424_0 BK397 HR424_0 HB HL431_0 HL435_0 HR431_0 HR435_0 hx425_0 hx426_0 hx431_0 hx435_0 hx428_0 hx429_0 hx432_0 hx433_0 hx434_0 hx436_0 hHeld ⊢
                             refine pu_ 0 221 56 1 ?_
                             refine pu_ 1 222 56 3 ?_
                             refine pu_ 2 223 56 7 ?_
                             refine pu_ 3 224 56 15 ?_
                             refine pu_ 4 225 56 31 ?_
                             refine pu_ 5 226 56 63 ?_
                             refine pu_ 7 228 56 191 ?_
                             refine pu_ 8 229 56 447 ?_
                             refine tk_ 6 227 56 511 hHeld ?_
                             refine tk_ 9 230 56 1023 hHeld ?_
                             refine one_ (i := 10) (N := some 231) (pm_ 56 2047) rfl rfl (one_of HT_.out (by kernel_rfl)) (by decide) (fun K hK => ?_)
                             refine goes_ Tryz.func15 (by kernel_rfl) rfl #[.int .i64 (rd (rd_L2 t398 x216_3) 0), .int .i64 (rd (rd_L2 t398 x216_3) 1)] (by rfl) rfl rfl (by (try simp only [List.map_toArray, List.map_cons, List.map_nil]); first | done | rfl | (simp only [List.length_drop, List.length_take]; rfl)) ?_
                             with_reducible refine (laws_yLow.calls k3 (rd (rd_L2 t398 x216_3) 0) (rd (rd_L2 t398 x216_3) 1) true _ A73.out).mono ?_
                             rintro e w' ⟨rfl, ⟨nd, rfl⟩⟩
                             refine ⟨_, rfl, ?_⟩
                             refine hK.out _ _ ⟨hHeld.1, hHeld.2.1, hHeld.2.2.1, hHeld.2.2.2.1, hHeld.2.2.2.2.1, hHeld.2.2.2.2.2.1, hHeld.2.2.2.2.2.2.1, hHeld.2.2.2.2.2.2.2.1, hHeld.2.2.2.2.2.2.2.2.1, hHeld.2.2.2.2.2.2.2.2.2⟩ (fun hHeld => ?_)
                             clear hK K
                             refine norm_ (a' := ?_) ?_ ?_
                             rotate_left
                             ·
                              show Act.put _ (some 231) _ = _
                              simp only [Act.put, List.setIfInBounds_toArray, List.set_cons_zero, List.set_cons_succ, i64_w, i32_w]
                              rfl
                             refine pu_ 11 232 56 4095 ?_
                             refine pu_ 12 233 56 8191 ?_
                             refine pu_ 13 234 56 16383 ?_
                             refine pu_ 14 235 56 32767 ?_
                             refine pu_ 15 236 56 65535 ?_
                             refine pu_ 17 238 56 196607 ?_
                             refine pu_ 18 239 56 458751 ?_
                             refine tk_ 16 237 56 524287 hHeld ?_
                             refine tk_ 19 240 56 1048575 hHeld ?_
                             refine one_ (i := 20) (N := some 241) (pm_ 56 2097151) rfl rfl (one_of HT_.out (by kernel_rfl)) (by decide) (fun K hK => ?_)
                             refine goes_ Tryz.func15 (by kernel_rfl) rfl #[.int .i64 (rd (rd_L2 t398 x216_3) 2), .int .i64 (rd (rd_L2 t398 x216_3) 3)] (by rfl) rfl rfl (by (try simp only [List.map_toArray, List.map_cons, List.map_nil]); first | done | rfl | (simp only [List.length_drop, List.length_take]; rfl)) ?_
                             with_reducible refine (laws_yLow.calls k3 (rd (rd_L2 t398 x216_3) 2) (rd (rd_L2 t398 x216_3) 3) true _ A77.out).mono ?_
                             rintro e w' ⟨rfl, ⟨nd, rfl⟩⟩
                             refine ⟨_, rfl, ?_⟩
                             refine hK.out _ _ ⟨hHeld.1, hHeld.2.1, hHeld.2.2.1, hHeld.2.2.2.1, hHeld.2.2.2.2.1, hHeld.2.2.2.2.2.1, hHeld.2.2.2.2.2.2.1, hHeld.2.2.2.2.2.2.2.1, hHeld.2.2.2.2.2.2.2.2.1, hHeld.2.2.2.2.2.2.2.2.2⟩ (fun hHeld => ?_)
                             clear hK K
                             refine norm_ (a' := ?_) ?_ ?_
                             rotate_left
                             ·
                              show Act.put _ (some 241) _ = _
                              simp only [Act.put, List.setIfInBounds_toArray, List.set_cons_zero, List.set_cons_succ, i64_w, i32_w]
                              rfl
                             refine pu_ 21 242 56 4194303 ?_
                             refine pu_ 22 243 56 8388607 ?_
                             refine pu_ 23 244 56 16777215 ?_
                             refine pu_ 24 245 56 33554431 ?_
                             refine pu_ 25 246 56 67108863 ?_
                             refine pu_ 26 247 56 134217727 ?_
                             refine pu_ 27 248 56 268435455 ?_
                             refine pu_ 28 249 56 536870911 ?_
                             refine pu_ 29 250 56 1073741823 ?_
                             refine pu_ 30 251 56 2147483647 ?_
                             refine pu_ 34 255 56 19327352831 ?_
                             refine pu_ 35 256 56 53687091199 ?_
                             refine pu_ 38 259 56 328564998143 ?_
                             refine pu_ 39 260 56 878320812031 ?_
                             refine pu_ 41 262 56 3077344067583 ?_
                             refine pu_ 42 263 56 7475390578687 ?_
                             refine pu_ 43 264 56 16271483600895 ?_
                             refine pu_ 44 265 56 33863669645311 ?_
                             refine tk_ 31 252 56 33865817128959 hHeld ?_
                             refine pu_ 32 253 56 33870112096255 ?_
                             refine tk_ 33 254 56 33878702030847 hHeld ?_
                             refine tk_ 36 257 56 33947421507583 hHeld ?_
                             refine pu_ 37 258 56 34084860461055 ?_
                             refine tk_ 40 261 56 35184372088831 hHeld ?_
                             refine tk_ 45 266 56 70368744177663 hHeld ?_
                             refine pu_ 46 267 56 140737488355327 ?_
                             refine tk_ 47 268 56 281474976710655 hHeld ?_
                             refine pu_ 48 269 56 562949953421311 ?_
                             refine pu_ 49 270 56 1125899906842623 ?_
                             refine pu_ 50 271 56 2251799813685247 ?_
                             refine pu_ 51 272 56 4503599627370495 ?_
                             refine po_ 52 273 56 9007199254740991 ?_
                             refine po_ 53 274 56 18014398509481983 ?_
                             refine pu_ 54 275 56 36028797018963967 ?_
                             refine pu_ 55 276 56 72057594037927935 ?_
                             refine done_ (done_of HT_.out (by kernel_rfl)) ?_
                             try go_wp2
                             go_meet
                             case rel => exact ⟨_, (false), (by first | rfl | (simp; done) | (simp [*]; done)), H', ⟨by have := HJ11.out; have := HJ56.out; have := HK3.out; first | omega | exact Nat.le_refl _⟩, ⟨by (with_reducible repeat (first | apply Kd.S_alloc | apply Kd.S_drewN | apply Kd.S_drew)); exact HO_7.out⟩, ⟨by (with_reducible repeat (first | apply Kd.S_alloc | apply Kd.S_drewN | apply Kd.S_drew)); exact HO_214.out⟩, ⟨bk_⟩, ⟨by repeat (first | (with_reducible exact HR424_0.out) | (with_reducible refine Kd.C_alloc ?_ _) | (with_reducible refine Kd.C_drewN ?_ _) | (with_reducible refine Kd.C_drew ?_) | exact HR424_0.out)⟩, ⟨bw_⟩⟩
                           ·
                            rw [if_neg c84] at H
                            exact absurd H (by simp)
                          ·
                           rw [if_neg c83] at H
                           exact absurd H (by simp)
                         ·
                          rw [if_neg c82] at H
                          exact absurd H (by simp)
                        ·
                         rw [if_neg c81] at H
                         exact absurd H (by simp)
                       ·
                        rw [if_neg c79] at H
                        have c79b0 : decide (0 < x216_3) = false := decide_eq_false c79
                        clear c79
                        have H' := Aside0.mk H
                        clear H
                        try go_wp2
                        have n0_ := Aside0.mk (Kd.S_drew HO_7.out)
                        have n1_ := Aside0.mk (Kd.S_drew HO_214.out)
                        have n2_ := Aside0.mk (Kd.R_drew HL424_0.out)
                        have n3_ := Aside0.mk (blk_drew BK397.out)
                        have n4_ := Aside0.mk (Kd.C_drew HR424_0.out)
                        have n5_ := Aside0.mk (below_drew1 HB.out)
                        clear HO_7
                        clear HO_214
                        clear HL424_0
                        clear BK397
                        clear HR424_0
                        clear HB
                        have HO_7 := n0_
                        have HO_214 := n1_
                        have HL424_0 := n2_
                        have BK397 := n3_
                        have HR424_0 := n4_
                        have HB := n5_
                        clear n0_ n1_ n2_ n3_ n4_ n5_
                        have p425 : 0 ≤ (0 : Int) := (by omega)
                        have q425 : 0 < ((rd_L2 t398 x216_3).length : Int) := of_decide_eq_true (by first | (with_reducible assumption) | assumption)
                        obtain ⟨ad425, e425, hx425_0⟩ := Kd.at_int (by repeat (first | (with_reducible exact HR424_0.out) | (with_reducible refine Kd.C_alloc ?_ _) | (with_reducible refine Kd.C_drewN ?_ _) | (with_reducible refine Kd.C_drew ?_) | exact HR424_0.out)) 0 p425 q425
                        cases e425
                        have qi425 : (0 < (rd_L2 t398 x216_3).length) = True := eq_true (by omega)
                        (try rw [show ((0 : Int)).toNat = 0 from rfl] at hx425_0)
                        (try rw [Addr.add_zero'] at hx425_0)
                        replace p425 := eq_true p425
                        replace q425 := eq_true q425
                        have p426 : 0 ≤ (1 : Int) := (by omega)
                        have q426 : 1 < ((rd_L2 t398 x216_3).length : Int) := of_decide_eq_true (by first | (with_reducible assumption) | assumption)
                        obtain ⟨ad426, e426, hx426_0⟩ := Kd.at_int (by repeat (first | (with_reducible exact HR424_0.out) | (with_reducible refine Kd.C_alloc ?_ _) | (with_reducible refine Kd.C_drewN ?_ _) | (with_reducible refine Kd.C_drew ?_) | exact HR424_0.out)) 1 p426 q426
                        obtain rfl : ad425 = ad426 := (by injection e426)
                        (try simp only [show (1 : Int).toNat = 1 from rfl, Nat.reduceMul, Nat.reduceEqDiff, Go.Addr.add, ↓reduceIte] at hx426_0)
                        have qi426 : (1 < (rd_L2 t398 x216_3).length) = True := eq_true (by omega)
                        (try rw [show ((1 : Int)).toNat = 1 from rfl] at hx426_0)
                        replace p426 := eq_true p426
                        replace q426 := eq_true q426
                        have p428 : 0 ≤ (2 : Int) := (by omega)
                        have q428 : 2 < ((rd_L2 t398 x216_3).length : Int) := of_decide_eq_true (by first | (with_reducible assumption) | assumption)
                        obtain ⟨ad428, e428, hx428_0⟩ := Kd.at_int (by repeat (first | (with_reducible exact HR424_0.out) | (with_reducible refine Kd.C_alloc ?_ _) | (with_reducible refine Kd.C_drewN ?_ _) | (with_reducible refine Kd.C_drew ?_) | exact HR424_0.out)) 2 p428 q428
                        obtain rfl : ad425 = ad428 := (by injection e428)
                        (try simp only [show (2 : Int).toNat = 2 from rfl, Nat.reduceMul, Nat.reduceEqDiff, Go.Addr.add, ↓reduceIte] at hx428_0)
                        have qi428 : (2 < (rd_L2 t398 x216_3).length) = True := eq_true (by omega)
                        (try rw [show ((2 : Int)).toNat = 2 from rfl] at hx428_0)
                        replace p428 := eq_true p428
                        replace q428 := eq_true q428
                        have p429 : 0 ≤ (3 : Int) := (by omega)
                        have q429 : 3 < ((rd_L2 t398 x216_3).length : Int) := of_decide_eq_true (by first | (with_reducible assumption) | assumption)
                        obtain ⟨ad429, e429, hx429_0⟩ := Kd.at_int (by repeat (first | (with_reducible exact HR424_0.out) | (with_reducible refine Kd.C_alloc ?_ _) | (with_reducible refine Kd.C_drewN ?_ _) | (with_reducible refine Kd.C_drew ?_) | exact HR424_0.out)) 3 p429 q429
                        obtain rfl : ad425 = ad429 := (by injection e429)
                        (try simp only [show (3 : Int).toNat = 3 from rfl, Nat.reduceMul, Nat.reduceEqDiff, Go.Addr.add, ↓reduceIte] at hx429_0)
                        have qi429 : (3 < (rd_L2 t398 x216_3).length) = True := eq_true (by omega)
                        (try rw [show ((3 : Int)).toNat = 3 from rfl] at hx429_0)
                        replace p429 := eq_true p429
                        replace q429 := eq_true q429
                        refine start_ (n := 56) (S := fun w' => w'.cell? ad425 = some (.int .i64 (rd (rd_L2 t398 x216_3) 0)) ∧ w'.cell? ⟨ad425.block, ad425.off + 1, none⟩ = some (.int .i64 (rd (rd_L2 t398 x216_3) 1)) ∧ w'.cell? ⟨ad425.block, ad425.off + 2, none⟩ = some (.int .i64 (rd (rd_L2 t398 x216_3) 2)) ∧ w'.cell? ⟨ad425.block, ad425.off + 3, none⟩ = some (.int .i64 (rd (rd_L2 t398 x216_3) 3))) (ds := []) #[false, false, false, false, false, false, false, false, false, false, false, false, false, false, false, false, false, false, false, false, false, false, false, false, false, false, false, false, false, false, false, false, false, false, false, false, false, false, false, false, false, false, false, false, false, false, false, false, false, false, false, false, false, false, false, false] (by kernel_rfl) rfl rfl ⟨hx425_0, hx426_0, hx428_0, hx429_0⟩ (fun hHeld => ?_); refine with_tabW laws_FnDogsTurn.tab18 laws_FnDogsTurn.bits18 (fun HT_ HW_ => ?_)
                        generalize wr.drew = w88 at HO_7 HO_214 HL424_0 BK397 HR424_0 HB hx425_0 hx426_0 hx428_0 hx429_0 hHeld ⊢
                        refine pu_ 0 221 56 1 ?_
                        refine pu_ 1 222 56 3 ?_
                        refine pu_ 2 223 56 7 ?_
                        refine pu_ 3 224 56 15 ?_
                        refine pu_ 4 225 56 31 ?_
                        refine pu_ 5 226 56 63 ?_
                        refine pu_ 7 228 56 191 ?_
                        refine pu_ 8 229 56 447 ?_
                        refine tk_ 6 227 56 511 hHeld ?_
                        refine tk_ 9 230 56 1023 hHeld ?_
                        refine one_ (i := 10) (N := some 231) (pm_ 56 2047) rfl rfl (one_of HT_.out (by kernel_rfl)) (by decide) (fun K hK => ?_)
                        refine goes_ Tryz.func15 (by kernel_rfl) rfl #[.int .i64 (rd (rd_L2 t398 x216_3) 0), .int .i64 (rd (rd_L2 t398 x216_3) 1)] (by rfl) rfl rfl (by (try simp only [List.map_toArray, List.map_cons, List.map_nil]); first | done | rfl | (simp only [List.length_drop, List.length_take]; rfl)) ?_
                        with_reducible refine (laws_yLow.calls k3 (rd (rd_L2 t398 x216_3) 0) (rd (rd_L2 t398 x216_3) 1) true _ A73.out).mono ?_
                        rintro e w' ⟨rfl, ⟨nd, rfl⟩⟩
                        refine ⟨_, rfl, ?_⟩
                        refine hK.out _ _ ⟨hHeld.1, hHeld.2.1, hHeld.2.2.1, hHeld.2.2.2⟩ (fun hHeld => ?_)
                        clear hK K
                        refine norm_ (a' := ?_) ?_ ?_
                        rotate_left
                        ·
                         show Act.put _ (some 231) _ = _
                         simp only [Act.put, List.setIfInBounds_toArray, List.set_cons_zero, List.set_cons_succ, i64_w, i32_w]
                         rfl
                        refine pu_ 11 232 56 4095 ?_
                        refine pu_ 12 233 56 8191 ?_
                        refine pu_ 13 234 56 16383 ?_
                        refine pu_ 14 235 56 32767 ?_
                        refine pu_ 15 236 56 65535 ?_
                        refine pu_ 17 238 56 196607 ?_
                        refine pu_ 18 239 56 458751 ?_
                        refine tk_ 16 237 56 524287 hHeld ?_
                        refine tk_ 19 240 56 1048575 hHeld ?_
                        refine one_ (i := 20) (N := some 241) (pm_ 56 2097151) rfl rfl (one_of HT_.out (by kernel_rfl)) (by decide) (fun K hK => ?_)
                        refine goes_ Tryz.func15 (by kernel_rfl) rfl #[.int .i64 (rd (rd_L2 t398 x216_3) 2), .int .i64 (rd (rd_L2 t398 x216_3) 3)] (by rfl) rfl rfl (by (try simp only [List.map_toArray, List.map_cons, List.map_nil]); first | done | rfl | (simp only [List.length_drop, List.length_take]; rfl)) ?_
                        with_reducible refine (laws_yLow.calls k3 (rd (rd_L2 t398 x216_3) 2) (rd (rd_L2 t398 x216_3) 3) true _ A77.out).mono ?_
                        rintro e w' ⟨rfl, ⟨nd, rfl⟩⟩
                        refine ⟨_, rfl, ?_⟩
                        refine hK.out _ _ ⟨hHeld.1, hHeld.2.1, hHeld.2.2.1, hHeld.2.2.2⟩ (fun hHeld => ?_)
                        clear hK K
                        refine norm_ (a' := ?_) ?_ ?_
                        rotate_left
                        ·
                         show Act.put _ (some 241) _ = _
                         simp only [Act.put, List.setIfInBounds_toArray, List.set_cons_zero, List.set_cons_succ, i64_w, i32_w]
                         rfl
                        refine pu_ 21 242 56 4194303 ?_
                        refine pu_ 22 243 56 8388607 ?_
                        refine pu_ 23 244 56 16777215 ?_
                        refine pu_ 24 245 56 33554431 ?_
                        refine pu_ 25 246 56 67108863 ?_
                        refine pu_ 26 247 56 134217727 ?_
                        refine po_ 27 248 56 268435455 ?_
                        refine po_ 28 249 56 536870911 ?_
                        refine po_ 29 250 56 1073741823 ?_
                        refine po_ 30 251 56 2147483647 ?_
                        refine po_ 31 252 56 4294967295 ?_
                        refine po_ 32 253 56 8589934591 ?_
                        refine po_ 33 254 56 17179869183 ?_
                        refine po_ 34 255 56 34359738367 ?_
                        refine po_ 35 256 56 68719476735 ?_
                        refine po_ 36 257 56 137438953471 ?_
                        refine po_ 37 258 56 274877906943 ?_
                        refine po_ 38 259 56 549755813887 ?_
                        refine po_ 39 260 56 1099511627775 ?_
                        refine po_ 40 261 56 2199023255551 ?_
                        refine po_ 41 262 56 4398046511103 ?_
                        refine po_ 42 263 56 8796093022207 ?_
                        refine po_ 43 264 56 17592186044415 ?_
                        refine po_ 44 265 56 35184372088831 ?_
                        refine po_ 45 266 56 70368744177663 ?_
                        refine po_ 46 267 56 140737488355327 ?_
                        refine po_ 47 268 56 281474976710655 ?_
                        refine po_ 48 269 56 562949953421311 ?_
                        refine po_ 49 270 56 1125899906842623 ?_
                        refine pu_ 50 271 56 2251799813685247 ?_
                        refine pu_ 51 272 56 4503599627370495 ?_
                        refine po_ 52 273 56 9007199254740991 ?_
                        refine po_ 53 274 56 18014398509481983 ?_
                        refine pu_ 54 275 56 36028797018963967 ?_
                        refine pu_ 55 276 56 72057594037927935 ?_
                        refine done_ (done_of HT_.out (by kernel_rfl)) ?_
                        try go_wp2
                        go_meet
                        case rel => exact ⟨_, (false), (by first | rfl | (simp; done) | (simp [*]; done)), H', ⟨by have := HJ11.out; have := HJ56.out; have := HK3.out; first | omega | exact Nat.le_refl _⟩, ⟨by (with_reducible repeat (first | apply Kd.S_alloc | apply Kd.S_drewN | apply Kd.S_drew)); exact HO_7.out⟩, ⟨by (with_reducible repeat (first | apply Kd.S_alloc | apply Kd.S_drewN | apply Kd.S_drew)); exact HO_214.out⟩, ⟨bk_⟩, ⟨by repeat (first | (with_reducible exact HR424_0.out) | (with_reducible refine Kd.C_alloc ?_ _) | (with_reducible refine Kd.C_drewN ?_ _) | (with_reducible refine Kd.C_drew ?_) | exact HR424_0.out)⟩, ⟨bw_⟩⟩
                      ·
                       replace c78 := Bool.eq_false_iff.mpr c78
                       subst c78
                       rw [if_neg (show ¬ (false = true) by decide)] at H
                       exact absurd (H.trans (congrArg some HRT.out)) (by cases k3 <;> simp [laws_FnDogsTurn.j3])
                     ·
                      rw [if_neg c76] at H
                      exact absurd H (by simp)
                    ·
                     rw [if_neg c75] at H
                     exact absurd H (by simp)
                   ·
                    replace c74 := Bool.eq_false_iff.mpr c74
                    subst c74
                    rw [if_neg (show ¬ (false = true) by decide)] at H
                    exact absurd (H.trans (congrArg some HRT.out)) (by cases k3 <;> simp [laws_FnDogsTurn.j3])
                  ·
                   rw [if_neg c72] at H
                   exact absurd H (by simp)
                 ·
                  rw [if_neg c71] at H
                  exact absurd H (by simp)
                ·
                 rw [if_neg c70] at H
                 have c70b0 : (((rd_L2 t398 x216_3).length : Int) == 4) = false := beq_eq_false_iff_ne.mpr c70
                 have c70b1 : (((rd_L2 t398 x216_3).length : Int) != 4) = true := bne_iff_ne.mpr c70
                 (first | rw [c70b0] | (simp only [i64_w, i32_w]; rw [c70b0]) | skip)
                 exact absurd (H.trans (congrArg some HRT.out)) (by cases k3 <;> simp [laws_FnDogsTurn.j3])
end Go.Proofs.YtajlcomankjcjabGreatDoor.PFnDogsTurn
