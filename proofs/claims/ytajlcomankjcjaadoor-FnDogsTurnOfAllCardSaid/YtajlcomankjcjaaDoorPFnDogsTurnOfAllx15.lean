-- Laid by a program of this session's (wip/gen/printp.sh): the functions that the law reaches, each with its walk.
import Derived.Test.YtajlcomankjcjaaDoorPFnDogsTurnOfAllx0
import Derived.Test.YtajlcomankjcjaaDoorPFnDogsTurnOfAllx1
import Derived.Test.YtajlcomankjcjaaDoorPFnDogsTurnOfAllx2
import Derived.Test.YtajlcomankjcjaaDoorPFnDogsTurnOfAllx5
import Derived.Test.YtajlcomankjcjaaDoorPFnDogsTurnOfAllx6
import Derived.Test.YtajlcomankjcjaaDoorPFnDogsTurnOfAllx7
import Derived.Test.YtajlcomankjcjaaDoorPFnDogsTurnOfAllx8
import Derived.Test.YtajlcomankjcjaaDoorPFnDogsTurnOfAllx9
import Derived.Test.YtajlcomankjcjaaDoorPFnDogsTurnOfAllx10
import Derived.Test.YtajlcomankjcjaaDoorPFnDogsTurnOfAllx11
import Derived.Test.YtajlcomankjcjaaDoorPFnDogsTurnOfAllx12
namespace Go.Proofs.YtajlcomankjcjaaDoor.PFnDogsTurnOfAll
open Go.RowKit Go.Proofs.YtajlcomankjcjaaDoorW.PrintWords Go.Proofs.YtajlcomankjcjaaDoorW.PrintLast Go.Proofs.YtajlcomankjcjaaDoorW.PrintMore
attribute [local go_sem] max2_int min2_int max_two min_two max_three min_three max_four min_four   -- for this text's walks alone
set_option linter.unusedVariables false
set_option linter.unusedSimpArgs false

attribute [local go_sem high] eqA23
set_option maxHeartbeats 80000000 in
set_option maxRecDepth 100000 in
theorem laws_FnDogsTurnOfAll.case3 (k : Nat) (a0_0 : Int) (a0_1 : Int) (a0_2 : Int) (a0_3 : Int) (a1 : Int) (a2_0 : Int) (a2_1 : Int) (a2_2 : Int) (a2_3 : Int) (r : Bool) (w : World) : (laws_FnDogsTurnOfAll.part k a0_0 a0_1 a0_2 a0_3 a1 a2_0 a2_1 a2_2 a2_3 r w).2.2.1 := by
               intro hL0 HRT hu23 t307 t311 t314 A5 t315 t316 t317 A6 t318 t319 t320 A7 t321 t322 t323 A8 t324 t325 t326 A9 z1_ gb305 w11 GW305 GE305 gb306 w12 GW306 GE306 NB305_306 NB306_305 hnb13 hnc13 hcz14_0 hcz14_1 hcz14_2 hcz14_3 hfz14_0 hfz14_1 hfz14_2 hfz14_3 w15 hcz16_0 hcz16_1 hcz16_2 hcz16_3 hfz16_0 hfz16_1 hfz16_2 hfz16_3 w17 v312 hcz18_0 hcz18_1 hcz18_2 hcz18_3 hfz18_0 hfz18_1 hfz18_2 hfz18_3 w19 hcz20_0 hcz20_1 hcz20_2 hcz20_3 hfz20_0 hfz20_1 hfz20_2 hfz20_3 w21 hcz22_0 hcz22_1 hcz22_2 hcz22_3 hfz22_0 hfz22_1 hfz22_2 hfz22_3 w23 hcz24_0 hcz24_1 hcz24_2 hcz24_3 hfz24_0 hfz24_1 hfz24_2 hfz24_3 w25 z2_ z3_ z4_ z5_ u120 u121 u122 u123 u124 u125 u126 u127 u128 u129 u130 u131 u132 u133 u134 u135 u136 u137 u138 u139 u140 u141 u142 u143 u144 u145 u146 u147 u148 u149 u150 u151 u152 u153 u154 u155 u156 u157 u158 u159 u160 u161 u162 u163 u164 u165 u166 u167 u168 u169 u170 u171 u172 u173 u174 u175 u176 u177 u178 u179 u180 u181 u182 z6_ z7_ z8_ kj9 HJ9 z9_ z10_ z11_ z12_ z13_ A4 wc u185 u186 u187 u188 u189 u190 u191 u192 u193 u194 u195 u196 u197 u198 u199 u200 u201 u202 u203 z14_ z15_ z16_ kj55 HJ55 co64 wr u6 u23 u24 u25 u26 u27 u28 u29 u208 u209 u210 u211 u212 u213 u214 u215 u216 u217 u218 u219 u220 u221 u222 u223 u224 u225 u226 u227 u228 u229 u230 u231 u232 u233 u234 u235 u236 u237 u238 u239 u240 u241 u242 u243 u244 u245 u246 u247 u248 u249 u250 u251 u252 u253 u254 u255 u256 u257 u258 u259 u260 u261 u262 u263 u264 u265 u266 u267 u268 u269 u270 u271 u272 u273 u274 u275 u276 u277 u278 u279 u280 u281 u282 u283 u284 u285 u286 u287 u288 u289 u290 u291 u292 u293 u294 u295 u296 u297 u298 u299 u300 u301 u302 u303 u304 u305 u306 u307 u308 u309 u310 u311 u312 u313 u314 u315 u316 u317 u318 u319 u320 u321 u322 u323 u324 u325 u326 u327 u328 u329 u330 u331 u332 u333 u334 u335 u336 u337 u338 u339 u340 u341 u342 u343 u344 u345 u346 u347 u348 u349 u350 u351 u352 u353 u354 u355 u356 u357 u358 u359 u360 u361 u362 u363 u364 u365 z17_ z18_ x207_3 BK305 BK306 HB k3 z19_ HK3 c65b0 c66b0 c67b0 HC68 ad333 A333_0 c333_0 hx333_0 HO309 HO313 z20_ z21_ z22_ z23_ HO_7 HO_205 ve333_0 HL333_0 HR333_0 HC333_0 p333 q333 z24_ z25_ z26_ z27_ z28_ z29_ z30_ z31_ z32_ z33_
               have H := HC68.out
               clear HC68
               by_cases c69 : ((rd_L1 t307 x207_3).length : Int) = 4
               ·
                rw [if_pos c69] at H
                have c69b0 : (((rd_L1 t307 x207_3).length : Int) == 4) = true := beq_iff_eq.mpr c69
                have c69b1 : (((rd_L1 t307 x207_3).length : Int) != 4) = false := bne_eq_false_iff_eq.mpr c69
                clear c69
                (first | rw [c69b0] | (simp only [i64_w, i32_w]; rw [c69b0]) | skip)
                by_cases c70 : 0 < ((rd_L1 t307 x207_3).length : Int)
                ·
                 rw [if_pos c70] at H
                 have c70b0 : decide (0 < ((rd_L1 t307 x207_3).length : Int)) = true := decide_eq_true c70
                 have c70b1 : decide (0 < (rd_L1 t307 x207_3).length) = true := decide_eq_true (by omega)
                 clear c70
                 by_cases c71 : 1 < ((rd_L1 t307 x207_3).length : Int)
                 ·
                  rw [if_pos c71] at H
                  have c71b0 : decide (1 < ((rd_L1 t307 x207_3).length : Int)) = true := decide_eq_true c71
                  have c71b1 : decide (1 < (rd_L1 t307 x207_3).length) = true := decide_eq_true (by omega)
                  clear c71
                  replace H := Option.bind_eq_some_iff.mp H
                  obtain ⟨t336, A720, H⟩ := H
                  (try dsimp only at H)
                  have A72 := Aside0.mk A720
                  clear A720
                  by_cases c73 : t336 = true
                  ·
                   subst c73
                   rw [if_pos rfl] at H
                   by_cases c74 : 2 < ((rd_L1 t307 x207_3).length : Int)
                   ·
                    rw [if_pos c74] at H
                    have c74b0 : decide (2 < ((rd_L1 t307 x207_3).length : Int)) = true := decide_eq_true c74
                    have c74b1 : decide (2 < (rd_L1 t307 x207_3).length) = true := decide_eq_true (by omega)
                    clear c74
                    by_cases c75 : 3 < ((rd_L1 t307 x207_3).length : Int)
                    ·
                     rw [if_pos c75] at H
                     have c75b0 : decide (3 < ((rd_L1 t307 x207_3).length : Int)) = true := decide_eq_true c75
                     have c75b1 : decide (3 < (rd_L1 t307 x207_3).length) = true := decide_eq_true (by omega)
                     clear c75
                     replace H := Option.bind_eq_some_iff.mp H
                     obtain ⟨t339, A760, H⟩ := H
                     (try dsimp only at H)
                     have A76 := Aside0.mk A760
                     clear A760
                     by_cases c77 : t339 = true
                     ·
                      subst c77
                      rw [if_pos rfl] at H
                      by_cases c78 : x207_3 > 0
                      ·
                       rw [if_pos c78] at H
                       have c78b0 : decide (0 < x207_3) = true := decide_eq_true c78
                       clear c78
                       obtain ⟨ji79, hji79⟩ : ∃ j_ : Int, (wrap64 (x207_3 - 1)) = j_ := ⟨_, rfl⟩
                       replace H : (if 0 ≤ (ji79) then (if (ji79) < (t307.length : Int) then (if 0 < ((rd_L1 t307 (ji79)).length : Int) then (if 1 < ((rd_L1 t307 (ji79)).length : Int) then (if (wrap64 ((rd (rd_L1 t307 (ji79)) 0) * (rd (rd_L1 t307 x207_3) 1))) ≥ (wrap64 ((rd (rd_L1 t307 x207_3) 0) * (rd (rd_L1 t307 (ji79)) 1))) then (laws_FnDogsTurnOfAll.j3 k3 a1 t307 x207_3 t307 (t307.length : Int) x207_3 (decide (a1 ≤ 3)) a0_0 a0_1 a0_2 a0_3 a2_0 a2_1 a2_2 a2_3) else (laws_FnDogsTurnOfAll.j3 k3 a1 t307 x207_3 t307 (t307.length : Int) x207_3 false a0_0 a0_1 a0_2 a0_3 a2_0 a2_1 a2_2 a2_3)) else (none)) else (none)) else (none)) else (none)) = some r := by first | (rw [hji79] at H; exact H) | (simp only [hji79] at H ⊢; exact H)
                       (try rw [hji79] at A72)
                       (try rw [hji79] at A76)
                       have hji79w : (IntKind.i64.wrap (x207_3 - 1)) = ji79 := (i64_w _).trans hji79
                       by_cases c80 : 0 ≤ (ji79)
                       ·
                        rw [if_pos c80] at H
                        have c80b0 : decide (0 ≤ (ji79)) = true := decide_eq_true c80
                        clear c80
                        by_cases c81 : (ji79) < (t307.length : Int)
                        ·
                         rw [if_pos c81] at H
                         have c81b0 : decide ((ji79) < (t307.length : Int)) = true := decide_eq_true c81
                         clear c81
                         by_cases c82 : 0 < ((rd_L1 t307 (ji79)).length : Int)
                         ·
                          rw [if_pos c82] at H
                          have c82b0 : decide (0 < ((rd_L1 t307 (ji79)).length : Int)) = true := decide_eq_true c82
                          have c82b1 : decide (0 < (rd_L1 t307 (ji79)).length) = true := decide_eq_true (by omega)
                          clear c82
                          by_cases c83 : 1 < ((rd_L1 t307 (ji79)).length : Int)
                          ·
                           rw [if_pos c83] at H
                           have c83b0 : decide (1 < ((rd_L1 t307 (ji79)).length : Int)) = true := decide_eq_true c83
                           have c83b1 : decide (1 < (rd_L1 t307 (ji79)).length) = true := decide_eq_true (by omega)
                           clear c83
                           by_cases c84 : (wrap64 ((rd (rd_L1 t307 (ji79)) 0) * (rd (rd_L1 t307 x207_3) 1))) ≥ (wrap64 ((rd (rd_L1 t307 x207_3) 0) * (rd (rd_L1 t307 (ji79)) 1)))
                           ·
                            rw [if_pos c84] at H
                            have c84b0 : decide ((wrap64 ((rd (rd_L1 t307 x207_3) 0) * (rd (rd_L1 t307 (ji79)) 1))) ≤ (wrap64 ((rd (rd_L1 t307 (ji79)) 0) * (rd (rd_L1 t307 x207_3) 1)))) = true := decide_eq_true c84
                            clear c84
                            have H' := Aside0.mk H
                            clear H
                            try go_wp2
                            have n0_ := Aside0.mk (Kd.S_drew HO_7.out)
                            have n1_ := Aside0.mk (Kd.S_drew HO_205.out)
                            have n2_ := Aside0.mk (Kd.R_drew HL333_0.out)
                            have n3_ := Aside0.mk (blk_drew BK305.out)
                            have n4_ := Aside0.mk (blk_drew BK306.out)
                            have n5_ := Aside0.mk (Kd.C_drew HR333_0.out)
                            have n6_ := Aside0.mk (below_drew1 HB.out)
                            clear HO_7
                            clear HO_205
                            clear HL333_0
                            clear BK305
                            clear BK306
                            clear HR333_0
                            clear HB
                            have HO_7 := n0_
                            have HO_205 := n1_
                            have HL333_0 := n2_
                            have BK305 := n3_
                            have BK306 := n4_
                            have HR333_0 := n5_
                            have HB := n6_
                            clear n0_ n1_ n2_ n3_ n4_ n5_ n6_
                            have p334 : 0 ≤ (0 : Int) := (by omega)
                            have q334 : 0 < ((rd_L1 t307 x207_3).length : Int) := of_decide_eq_true (by first | (with_reducible assumption) | assumption)
                            obtain ⟨ad334, e334, hx334_0⟩ := Kd.at_int (by repeat (first | (with_reducible exact HR333_0.out) | (with_reducible refine Kd.C_alloc ?_ _) | (with_reducible refine Kd.C_drewN ?_ _) | (with_reducible refine Kd.C_drew ?_) | exact HR333_0.out)) 0 p334 q334
                            cases e334
                            have qi334 : (0 < (rd_L1 t307 x207_3).length) = True := eq_true (by omega)
                            (try rw [show ((0 : Int)).toNat = 0 from rfl] at hx334_0)
                            (try rw [Addr.add_zero'] at hx334_0)
                            replace p334 := eq_true p334
                            replace q334 := eq_true q334
                            have p335 : 0 ≤ (1 : Int) := (by omega)
                            have q335 : 1 < ((rd_L1 t307 x207_3).length : Int) := of_decide_eq_true (by first | (with_reducible assumption) | assumption)
                            obtain ⟨ad335, e335, hx335_0⟩ := Kd.at_int (by repeat (first | (with_reducible exact HR333_0.out) | (with_reducible refine Kd.C_alloc ?_ _) | (with_reducible refine Kd.C_drewN ?_ _) | (with_reducible refine Kd.C_drew ?_) | exact HR333_0.out)) 1 p335 q335
                            obtain rfl : ad334 = ad335 := (by injection e335)
                            (try simp only [show (1 : Int).toNat = 1 from rfl, Nat.reduceMul, Nat.reduceEqDiff, Go.Addr.add, ↓reduceIte] at hx335_0)
                            have qi335 : (1 < (rd_L1 t307 x207_3).length) = True := eq_true (by omega)
                            (try rw [show ((1 : Int)).toNat = 1 from rfl] at hx335_0)
                            replace p335 := eq_true p335
                            replace q335 := eq_true q335
                            have p340 : 0 ≤ ((ji79) : Int) := of_decide_eq_true (by first | (with_reducible assumption) | assumption)
                            have q340 : (ji79) < (t307.length : Int) := of_decide_eq_true (by first | (with_reducible assumption) | assumption)
                            obtain ⟨ad340, A340_0, c340_0, e340, hx340_0, hl340_0, hi340_0⟩ := at_L1 (Kd.S_reads' HO_7.out).2.2 (ji79) p340 q340
                            obtain rfl : ad333 = ad340 := (by injection e340)
                            obtain ⟨ce340, hce340, hMe340, hcc340⟩ := Kd.S_get HO_7.out [] (ji79) p340 (by first | exact q340 | exact of_decide_eq_true (by first | (with_reducible assumption) | assumption) | (have e_ := (Kd.S_reads' HO_7.out).1; omega))
                            obtain ⟨ve340_0, rfl, ge340_0⟩ := hMe340
                            have hv340_0 := hcc340 0 _ rfl
                            rw [Nat.add_zero, show ((Kd.slice 3 (Kd.int .i64))).sz = 1 from rfl, Nat.mul_one] at hv340_0
                            replace hv340_0 := Option.some.inj (hv340_0.symm.trans hx340_0)
                            rw [hv340_0] at ge340_0
                            have HL340_0 := Aside0.mk (show Kd.R (Kd.int .i64) 3 _ _ _ _ (rd_L1 t307 (ji79)) from ge340_0)
                            clear hv340_0 ge340_0
                            clear hcc340 hce340
                            have HR340_0 := Aside0.mk hi340_0
                            have HC340_0 := Aside0.mk hl340_0
                            clear hi340_0 hl340_0
                            replace p340 := eq_true p340
                            replace q340 := eq_true q340
                            have p344 : 0 ≤ ((ji79) : Int) := of_decide_eq_true (by first | (with_reducible assumption) | assumption)
                            have q344 : (ji79) < (t307.length : Int) := of_decide_eq_true (by first | (with_reducible assumption) | assumption)
                            obtain ⟨ad344, A344_0, c344_0, e344, hx344_0, hl344_0, hi344_0⟩ := at_L1 (Kd.S_reads' HO_7.out).2.2 (ji79) p344 q344
                            obtain rfl : ad333 = ad344 := (by injection e344)
                            obtain ⟨ce344, hce344, hMe344, hcc344⟩ := Kd.S_get HO_7.out [] (ji79) p344 (by first | exact q344 | exact of_decide_eq_true (by first | (with_reducible assumption) | assumption) | (have e_ := (Kd.S_reads' HO_7.out).1; omega))
                            obtain ⟨ve344_0, rfl, ge344_0⟩ := hMe344
                            have hv344_0 := hcc344 0 _ rfl
                            rw [Nat.add_zero, show ((Kd.slice 3 (Kd.int .i64))).sz = 1 from rfl, Nat.mul_one] at hv344_0
                            replace hv344_0 := Option.some.inj (hv344_0.symm.trans hx344_0)
                            rw [hv344_0] at ge344_0
                            have HL344_0 := Aside0.mk (show Kd.R (Kd.int .i64) 3 _ _ _ _ (rd_L1 t307 (ji79)) from ge344_0)
                            clear hv344_0 ge344_0
                            clear hcc344 hce344
                            have HR344_0 := Aside0.mk hi344_0
                            have HC344_0 := Aside0.mk hl344_0
                            clear hi344_0 hl344_0
                            replace p344 := eq_true p344
                            replace q344 := eq_true q344
                            have ea_ := Option.some.inj (hx340_0.symm.trans hx344_0)
                            injection ea_ with ea_ en_ ec_
                            subst ea_
                            subst ec_
                            clear en_
                            have p337 : 0 ≤ (2 : Int) := (by omega)
                            have q337 : 2 < ((rd_L1 t307 x207_3).length : Int) := of_decide_eq_true (by first | (with_reducible assumption) | assumption)
                            obtain ⟨ad337, e337, hx337_0⟩ := Kd.at_int (by repeat (first | (with_reducible exact HR333_0.out) | (with_reducible refine Kd.C_alloc ?_ _) | (with_reducible refine Kd.C_drewN ?_ _) | (with_reducible refine Kd.C_drew ?_) | exact HR333_0.out)) 2 p337 q337
                            obtain rfl : ad334 = ad337 := (by injection e337)
                            (try simp only [show (2 : Int).toNat = 2 from rfl, Nat.reduceMul, Nat.reduceEqDiff, Go.Addr.add, ↓reduceIte] at hx337_0)
                            have qi337 : (2 < (rd_L1 t307 x207_3).length) = True := eq_true (by omega)
                            (try rw [show ((2 : Int)).toNat = 2 from rfl] at hx337_0)
                            replace p337 := eq_true p337
                            replace q337 := eq_true q337
                            have p338 : 0 ≤ (3 : Int) := (by omega)
                            have q338 : 3 < ((rd_L1 t307 x207_3).length : Int) := of_decide_eq_true (by first | (with_reducible assumption) | assumption)
                            obtain ⟨ad338, e338, hx338_0⟩ := Kd.at_int (by repeat (first | (with_reducible exact HR333_0.out) | (with_reducible refine Kd.C_alloc ?_ _) | (with_reducible refine Kd.C_drewN ?_ _) | (with_reducible refine Kd.C_drew ?_) | exact HR333_0.out)) 3 p338 q338
                            obtain rfl : ad334 = ad338 := (by injection e338)
                            (try simp only [show (3 : Int).toNat = 3 from rfl, Nat.reduceMul, Nat.reduceEqDiff, Go.Addr.add, ↓reduceIte] at hx338_0)
                            have qi338 : (3 < (rd_L1 t307 x207_3).length) = True := eq_true (by omega)
                            (try rw [show ((3 : Int)).toNat = 3 from rfl] at hx338_0)
                            replace p338 := eq_true p338
                            replace q338 := eq_true q338
                            have p341 : 0 ≤ (0 : Int) := (by omega)
                            have q341 : 0 < ((rd_L1 t307 (ji79)).length : Int) := of_decide_eq_true (by first | (with_reducible assumption) | assumption)
                            obtain ⟨ad341, e341, hx341_0⟩ := Kd.at_int (by repeat (first | (with_reducible exact HR340_0.out) | (with_reducible refine Kd.C_alloc ?_ _) | (with_reducible refine Kd.C_drewN ?_ _) | (with_reducible refine Kd.C_drew ?_) | exact HR340_0.out)) 0 p341 q341
                            cases e341
                            have qi341 : (0 < (rd_L1 t307 (ji79)).length) = True := eq_true (by omega)
                            (try rw [show ((0 : Int)).toNat = 0 from rfl] at hx341_0)
                            (try rw [Addr.add_zero'] at hx341_0)
                            replace p341 := eq_true p341
                            replace q341 := eq_true q341
                            have p342 : 0 ≤ (1 : Int) := (by omega)
                            have q342 : 1 < ((rd_L1 t307 x207_3).length : Int) := of_decide_eq_true (by first | (with_reducible assumption) | assumption)
                            obtain ⟨ad342, e342, hx342_0⟩ := Kd.at_int (by repeat (first | (with_reducible exact HR333_0.out) | (with_reducible refine Kd.C_alloc ?_ _) | (with_reducible refine Kd.C_drewN ?_ _) | (with_reducible refine Kd.C_drew ?_) | exact HR333_0.out)) 1 p342 q342
                            obtain rfl : ad334 = ad342 := (by injection e342)
                            (try simp only [show (1 : Int).toNat = 1 from rfl, Nat.reduceMul, Nat.reduceEqDiff, Go.Addr.add, ↓reduceIte] at hx342_0)
                            have qi342 : (1 < (rd_L1 t307 x207_3).length) = True := eq_true (by omega)
                            (try rw [show ((1 : Int)).toNat = 1 from rfl] at hx342_0)
                            replace p342 := eq_true p342
                            replace q342 := eq_true q342
                            have p343 : 0 ≤ (0 : Int) := (by omega)
                            have q343 : 0 < ((rd_L1 t307 x207_3).length : Int) := of_decide_eq_true (by first | (with_reducible assumption) | assumption)
                            obtain ⟨ad343, e343, hx343_0⟩ := Kd.at_int (by repeat (first | (with_reducible exact HR333_0.out) | (with_reducible refine Kd.C_alloc ?_ _) | (with_reducible refine Kd.C_drewN ?_ _) | (with_reducible refine Kd.C_drew ?_) | exact HR333_0.out)) 0 p343 q343
                            obtain rfl : ad334 = ad343 := (by injection e343)
                            have qi343 : (0 < (rd_L1 t307 x207_3).length) = True := eq_true (by omega)
                            (try rw [show ((0 : Int)).toNat = 0 from rfl] at hx343_0)
                            (try rw [Addr.add_zero'] at hx343_0)
                            replace p343 := eq_true p343
                            replace q343 := eq_true q343
                            have p345 : 0 ≤ (1 : Int) := (by omega)
                            have q345 : 1 < ((rd_L1 t307 (ji79)).length : Int) := of_decide_eq_true (by first | (with_reducible assumption) | assumption)
                            obtain ⟨ad345, e345, hx345_0⟩ := Kd.at_int (by repeat (first | (with_reducible exact HR344_0.out) | (with_reducible refine Kd.C_alloc ?_ _) | (with_reducible refine Kd.C_drewN ?_ _) | (with_reducible refine Kd.C_drew ?_) | exact HR344_0.out)) 1 p345 q345
                            obtain rfl : ad341 = ad345 := (by injection e345)
                            (try simp only [show (1 : Int).toNat = 1 from rfl, Nat.reduceMul, Nat.reduceEqDiff, Go.Addr.add, ↓reduceIte] at hx345_0)
                            have qi345 : (1 < (rd_L1 t307 (ji79)).length) = True := eq_true (by omega)
                            (try rw [show ((1 : Int)).toNat = 1 from rfl] at hx345_0)
                            replace p345 := eq_true p345
                            replace q345 := eq_true q345
                            refine start_ (n := 56) (S := fun w' => w'.cell? ad334 = some (.int .i64 (rd (rd_L1 t307 x207_3) 0)) ∧ w'.cell? ⟨ad334.block, ad334.off + 1, none⟩ = some (.int .i64 (rd (rd_L1 t307 x207_3) 1)) ∧ w'.cell? ⟨ad334.block, ad334.off + 2, none⟩ = some (.int .i64 (rd (rd_L1 t307 x207_3) 2)) ∧ w'.cell? ⟨ad334.block, ad334.off + 3, none⟩ = some (.int .i64 (rd (rd_L1 t307 x207_3) 3)) ∧ w'.cell? (ad333.add ((ji79)).toNat) = some (.slice (some ad341) (rd_L1 t307 (ji79)).length c340_0) ∧ w'.cell? ad341 = some (.int .i64 (rd (rd_L1 t307 (ji79)) 0)) ∧ w'.cell? ⟨ad334.block, ad334.off + 1, none⟩ = some (.int .i64 (rd (rd_L1 t307 x207_3) 1)) ∧ w'.cell? ad334 = some (.int .i64 (rd (rd_L1 t307 x207_3) 0)) ∧ w'.cell? (ad333.add ((ji79)).toNat) = some (.slice (some ad341) (rd_L1 t307 (ji79)).length c340_0) ∧ w'.cell? ⟨ad341.block, ad341.off + 1, none⟩ = some (.int .i64 (rd (rd_L1 t307 (ji79)) 1))) (ds := []) #[false, false, false, false, false, false, false, false, false, false, false, false, false, false, false, false, false, false, false, false, false, false, false, false, false, false, false, false, false, false, false, false, false, false, false, false, false, false, false, false, false, false, false, false, false, false, false, false, false, false, false, false, false, false, false, false] (by kernel_rfl) rfl rfl ⟨hx334_0, hx335_0, hx337_0, hx338_0, hx340_0, hx341_0, hx342_0, hx343_0, hx344_0, hx345_0⟩ (fun hHeld => ?_); refine with_tabW laws_FnDogsTurnOfAll.tab15 laws_FnDogsTurnOfAll.bits15 (fun HT_ HW_ => ?_)
                            generalize wr.drew = w85 at HO_7 HO_205 HL333_0 BK305 BK306 HR333_0 HB HL340_0 HL344_0 HR340_0 HR344_0 hx334_0 hx335_0 hx340_0 hx344_0 hx337_0 hx338_0 hx341_0 hx342_0 hx343_0 hx345_0 hHeld ⊢
                            refine pu_ 0 212 56 1 ?_
                            refine pu_ 1 213 56 3 ?_
                            refine pu_ 2 214 56 7 ?_
                            refine pu_ 3 215 56 15 ?_
                            refine pu_ 4 216 56 31 ?_
                            refine pu_ 5 217 56 63 ?_
                            refine pu_ 7 219 56 191 ?_
                            refine pu_ 8 220 56 447 ?_
                            refine tk_ 6 218 56 511 hHeld ?_
                            refine tk_ 9 221 56 1023 hHeld ?_
                            refine one_ (i := 10) (N := some 222) (pm_ 56 2047) rfl rfl (one_of HT_.out (by kernel_rfl)) (by decide) (fun K hK => ?_)
                            refine goes_ Tryd.func13 (by kernel_rfl) rfl #[.int .i64 (rd (rd_L1 t307 x207_3) 0), .int .i64 (rd (rd_L1 t307 x207_3) 1)] (by rfl) rfl rfl (by (try simp only [List.map_toArray, List.map_cons, List.map_nil]); first | done | rfl | (simp only [List.length_drop, List.length_take]; rfl)) ?_
                            with_reducible refine (laws_yLow.calls k3 (rd (rd_L1 t307 x207_3) 0) (rd (rd_L1 t307 x207_3) 1) true _ A72.out).mono ?_
                            rintro e w' ⟨rfl, ⟨nd, rfl⟩⟩
                            refine ⟨_, rfl, ?_⟩
                            refine hK.out _ _ ⟨hHeld.1, hHeld.2.1, hHeld.2.2.1, hHeld.2.2.2.1, hHeld.2.2.2.2.1, hHeld.2.2.2.2.2.1, hHeld.2.2.2.2.2.2.1, hHeld.2.2.2.2.2.2.2.1, hHeld.2.2.2.2.2.2.2.2.1, hHeld.2.2.2.2.2.2.2.2.2⟩ (fun hHeld => ?_)
                            clear hK K
                            refine norm_ (a' := ?_) ?_ ?_
                            rotate_left
                            ·
                             show Act.put _ (some 222) _ = _
                             simp only [Act.put, List.setIfInBounds_toArray, List.set_cons_zero, List.set_cons_succ, i64_w, i32_w]
                             rfl
                            refine pu_ 11 223 56 4095 ?_
                            refine pu_ 12 224 56 8191 ?_
                            refine pu_ 13 225 56 16383 ?_
                            refine pu_ 14 226 56 32767 ?_
                            refine pu_ 15 227 56 65535 ?_
                            refine pu_ 17 229 56 196607 ?_
                            refine pu_ 18 230 56 458751 ?_
                            refine tk_ 16 228 56 524287 hHeld ?_
                            refine tk_ 19 231 56 1048575 hHeld ?_
                            refine one_ (i := 20) (N := some 232) (pm_ 56 2097151) rfl rfl (one_of HT_.out (by kernel_rfl)) (by decide) (fun K hK => ?_)
                            refine goes_ Tryd.func13 (by kernel_rfl) rfl #[.int .i64 (rd (rd_L1 t307 x207_3) 2), .int .i64 (rd (rd_L1 t307 x207_3) 3)] (by rfl) rfl rfl (by (try simp only [List.map_toArray, List.map_cons, List.map_nil]); first | done | rfl | (simp only [List.length_drop, List.length_take]; rfl)) ?_
                            with_reducible refine (laws_yLow.calls k3 (rd (rd_L1 t307 x207_3) 2) (rd (rd_L1 t307 x207_3) 3) true _ A76.out).mono ?_
                            rintro e w' ⟨rfl, ⟨nd, rfl⟩⟩
                            refine ⟨_, rfl, ?_⟩
                            refine hK.out _ _ ⟨hHeld.1, hHeld.2.1, hHeld.2.2.1, hHeld.2.2.2.1, hHeld.2.2.2.2.1, hHeld.2.2.2.2.2.1, hHeld.2.2.2.2.2.2.1, hHeld.2.2.2.2.2.2.2.1, hHeld.2.2.2.2.2.2.2.2.1, hHeld.2.2.2.2.2.2.2.2.2⟩ (fun hHeld => ?_)
                            clear hK K
                            refine norm_ (a' := ?_) ?_ ?_
                            rotate_left
                            ·
                             show Act.put _ (some 232) _ = _
                             simp only [Act.put, List.setIfInBounds_toArray, List.set_cons_zero, List.set_cons_succ, i64_w, i32_w]
                             rfl
                            refine pu_ 21 233 56 4194303 ?_
                            refine pu_ 22 234 56 8388607 ?_
                            refine pu_ 23 235 56 16777215 ?_
                            refine pu_ 24 236 56 33554431 ?_
                            refine pu_ 25 237 56 67108863 ?_
                            refine pu_ 26 238 56 134217727 ?_
                            refine pu_ 27 239 56 268435455 ?_
                            refine pu_ 28 240 56 536870911 ?_
                            refine pu_ 29 241 56 1073741823 ?_
                            refine pu_ 30 242 56 2147483647 ?_
                            refine pu_ 34 246 56 19327352831 ?_
                            refine pu_ 35 247 56 53687091199 ?_
                            refine pu_ 38 250 56 328564998143 ?_
                            refine pu_ 39 251 56 878320812031 ?_
                            refine pu_ 41 253 56 3077344067583 ?_
                            refine pu_ 42 254 56 7475390578687 ?_
                            refine pu_ 43 255 56 16271483600895 ?_
                            refine pu_ 44 256 56 33863669645311 ?_
                            refine tk_ 31 243 56 33865817128959 hHeld ?_
                            refine pu_ 32 244 56 33870112096255 ?_
                            refine tk_ 33 245 56 33878702030847 hHeld ?_
                            refine tk_ 36 248 56 33947421507583 hHeld ?_
                            refine pu_ 37 249 56 34084860461055 ?_
                            refine tk_ 40 252 56 35184372088831 hHeld ?_
                            refine tk_ 45 257 56 70368744177663 hHeld ?_
                            refine pu_ 46 258 56 140737488355327 ?_
                            refine tk_ 47 259 56 281474976710655 hHeld ?_
                            refine pu_ 48 260 56 562949953421311 ?_
                            refine pu_ 49 261 56 1125899906842623 ?_
                            refine pu_ 50 262 56 2251799813685247 ?_
                            refine pu_ 51 263 56 4503599627370495 ?_
                            refine pu_ 52 264 56 9007199254740991 ?_
                            refine pu_ 53 265 56 18014398509481983 ?_
                            refine pu_ 54 266 56 36028797018963967 ?_
                            refine pu_ 55 267 56 72057594037927935 ?_
                            refine done_ (done_of HT_.out (by kernel_rfl)) ?_
                            try go_wp2
                            go_meet
                            case rel => exact ⟨_, (decide (a1 ≤ 3)), (by first | rfl | (simp; done) | (simp [*]; done)), H', ⟨by have := HJ9.out; have := HJ55.out; have := HK3.out; first | omega | exact Nat.le_refl _⟩, ⟨by (with_reducible repeat (first | apply Kd.S_alloc | apply Kd.S_drewN | apply Kd.S_drew)); exact HO_7.out⟩, ⟨by (with_reducible repeat (first | apply Kd.S_alloc | apply Kd.S_drewN | apply Kd.S_drew)); exact HO_205.out⟩, ⟨bk_⟩, ⟨bk_⟩, ⟨by repeat (first | (with_reducible exact HR333_0.out) | (with_reducible refine Kd.C_alloc ?_ _) | (with_reducible refine Kd.C_drewN ?_ _) | (with_reducible refine Kd.C_drew ?_) | exact HR333_0.out)⟩, ⟨bw_⟩⟩
                           ·
                            rw [if_neg c84] at H
                            have c84b0 : decide ((wrap64 ((rd (rd_L1 t307 x207_3) 0) * (rd (rd_L1 t307 (ji79)) 1))) ≤ (wrap64 ((rd (rd_L1 t307 (ji79)) 0) * (rd (rd_L1 t307 x207_3) 1)))) = false := decide_eq_false c84
                            clear c84
                            have H' := Aside0.mk H
                            clear H
                            try go_wp2
                            have n0_ := Aside0.mk (Kd.S_drew HO_7.out)
                            have n1_ := Aside0.mk (Kd.S_drew HO_205.out)
                            have n2_ := Aside0.mk (Kd.R_drew HL333_0.out)
                            have n3_ := Aside0.mk (blk_drew BK305.out)
                            have n4_ := Aside0.mk (blk_drew BK306.out)
                            have n5_ := Aside0.mk (Kd.C_drew HR333_0.out)
                            have n6_ := Aside0.mk (below_drew1 HB.out)
                            clear HO_7
                            clear HO_205
                            clear HL333_0
                            clear BK305
                            clear BK306
                            clear HR333_0
                            clear HB
                            have HO_7 := n0_
                            have HO_205 := n1_
                            have HL333_0 := n2_
                            have BK305 := n3_
                            have BK306 := n4_
                            have HR333_0 := n5_
                            have HB := n6_
                            clear n0_ n1_ n2_ n3_ n4_ n5_ n6_
                            have p334 : 0 ≤ (0 : Int) := (by omega)
                            have q334 : 0 < ((rd_L1 t307 x207_3).length : Int) := of_decide_eq_true (by first | (with_reducible assumption) | assumption)
                            obtain ⟨ad334, e334, hx334_0⟩ := Kd.at_int (by repeat (first | (with_reducible exact HR333_0.out) | (with_reducible refine Kd.C_alloc ?_ _) | (with_reducible refine Kd.C_drewN ?_ _) | (with_reducible refine Kd.C_drew ?_) | exact HR333_0.out)) 0 p334 q334
                            cases e334
                            have qi334 : (0 < (rd_L1 t307 x207_3).length) = True := eq_true (by omega)
                            (try rw [show ((0 : Int)).toNat = 0 from rfl] at hx334_0)
                            (try rw [Addr.add_zero'] at hx334_0)
                            replace p334 := eq_true p334
                            replace q334 := eq_true q334
                            have p335 : 0 ≤ (1 : Int) := (by omega)
                            have q335 : 1 < ((rd_L1 t307 x207_3).length : Int) := of_decide_eq_true (by first | (with_reducible assumption) | assumption)
                            obtain ⟨ad335, e335, hx335_0⟩ := Kd.at_int (by repeat (first | (with_reducible exact HR333_0.out) | (with_reducible refine Kd.C_alloc ?_ _) | (with_reducible refine Kd.C_drewN ?_ _) | (with_reducible refine Kd.C_drew ?_) | exact HR333_0.out)) 1 p335 q335
                            obtain rfl : ad334 = ad335 := (by injection e335)
                            (try simp only [show (1 : Int).toNat = 1 from rfl, Nat.reduceMul, Nat.reduceEqDiff, Go.Addr.add, ↓reduceIte] at hx335_0)
                            have qi335 : (1 < (rd_L1 t307 x207_3).length) = True := eq_true (by omega)
                            (try rw [show ((1 : Int)).toNat = 1 from rfl] at hx335_0)
                            replace p335 := eq_true p335
                            replace q335 := eq_true q335
                            have p340 : 0 ≤ ((ji79) : Int) := of_decide_eq_true (by first | (with_reducible assumption) | assumption)
                            have q340 : (ji79) < (t307.length : Int) := of_decide_eq_true (by first | (with_reducible assumption) | assumption)
                            obtain ⟨ad340, A340_0, c340_0, e340, hx340_0, hl340_0, hi340_0⟩ := at_L1 (Kd.S_reads' HO_7.out).2.2 (ji79) p340 q340
                            obtain rfl : ad333 = ad340 := (by injection e340)
                            obtain ⟨ce340, hce340, hMe340, hcc340⟩ := Kd.S_get HO_7.out [] (ji79) p340 (by first | exact q340 | exact of_decide_eq_true (by first | (with_reducible assumption) | assumption) | (have e_ := (Kd.S_reads' HO_7.out).1; omega))
                            obtain ⟨ve340_0, rfl, ge340_0⟩ := hMe340
                            have hv340_0 := hcc340 0 _ rfl
                            rw [Nat.add_zero, show ((Kd.slice 3 (Kd.int .i64))).sz = 1 from rfl, Nat.mul_one] at hv340_0
                            replace hv340_0 := Option.some.inj (hv340_0.symm.trans hx340_0)
                            rw [hv340_0] at ge340_0
                            have HL340_0 := Aside0.mk (show Kd.R (Kd.int .i64) 3 _ _ _ _ (rd_L1 t307 (ji79)) from ge340_0)
                            clear hv340_0 ge340_0
                            clear hcc340 hce340
                            have HR340_0 := Aside0.mk hi340_0
                            have HC340_0 := Aside0.mk hl340_0
                            clear hi340_0 hl340_0
                            replace p340 := eq_true p340
                            replace q340 := eq_true q340
                            have p344 : 0 ≤ ((ji79) : Int) := of_decide_eq_true (by first | (with_reducible assumption) | assumption)
                            have q344 : (ji79) < (t307.length : Int) := of_decide_eq_true (by first | (with_reducible assumption) | assumption)
                            obtain ⟨ad344, A344_0, c344_0, e344, hx344_0, hl344_0, hi344_0⟩ := at_L1 (Kd.S_reads' HO_7.out).2.2 (ji79) p344 q344
                            obtain rfl : ad333 = ad344 := (by injection e344)
                            obtain ⟨ce344, hce344, hMe344, hcc344⟩ := Kd.S_get HO_7.out [] (ji79) p344 (by first | exact q344 | exact of_decide_eq_true (by first | (with_reducible assumption) | assumption) | (have e_ := (Kd.S_reads' HO_7.out).1; omega))
                            obtain ⟨ve344_0, rfl, ge344_0⟩ := hMe344
                            have hv344_0 := hcc344 0 _ rfl
                            rw [Nat.add_zero, show ((Kd.slice 3 (Kd.int .i64))).sz = 1 from rfl, Nat.mul_one] at hv344_0
                            replace hv344_0 := Option.some.inj (hv344_0.symm.trans hx344_0)
                            rw [hv344_0] at ge344_0
                            have HL344_0 := Aside0.mk (show Kd.R (Kd.int .i64) 3 _ _ _ _ (rd_L1 t307 (ji79)) from ge344_0)
                            clear hv344_0 ge344_0
                            clear hcc344 hce344
                            have HR344_0 := Aside0.mk hi344_0
                            have HC344_0 := Aside0.mk hl344_0
                            clear hi344_0 hl344_0
                            replace p344 := eq_true p344
                            replace q344 := eq_true q344
                            have ea_ := Option.some.inj (hx340_0.symm.trans hx344_0)
                            injection ea_ with ea_ en_ ec_
                            subst ea_
                            subst ec_
                            clear en_
                            have p337 : 0 ≤ (2 : Int) := (by omega)
                            have q337 : 2 < ((rd_L1 t307 x207_3).length : Int) := of_decide_eq_true (by first | (with_reducible assumption) | assumption)
                            obtain ⟨ad337, e337, hx337_0⟩ := Kd.at_int (by repeat (first | (with_reducible exact HR333_0.out) | (with_reducible refine Kd.C_alloc ?_ _) | (with_reducible refine Kd.C_drewN ?_ _) | (with_reducible refine Kd.C_drew ?_) | exact HR333_0.out)) 2 p337 q337
                            obtain rfl : ad334 = ad337 := (by injection e337)
                            (try simp only [show (2 : Int).toNat = 2 from rfl, Nat.reduceMul, Nat.reduceEqDiff, Go.Addr.add, ↓reduceIte] at hx337_0)
                            have qi337 : (2 < (rd_L1 t307 x207_3).length) = True := eq_true (by omega)
                            (try rw [show ((2 : Int)).toNat = 2 from rfl] at hx337_0)
                            replace p337 := eq_true p337
                            replace q337 := eq_true q337
                            have p338 : 0 ≤ (3 : Int) := (by omega)
                            have q338 : 3 < ((rd_L1 t307 x207_3).length : Int) := of_decide_eq_true (by first | (with_reducible assumption) | assumption)
                            obtain ⟨ad338, e338, hx338_0⟩ := Kd.at_int (by repeat (first | (with_reducible exact HR333_0.out) | (with_reducible refine Kd.C_alloc ?_ _) | (with_reducible refine Kd.C_drewN ?_ _) | (with_reducible refine Kd.C_drew ?_) | exact HR333_0.out)) 3 p338 q338
                            obtain rfl : ad334 = ad338 := (by injection e338)
                            (try simp only [show (3 : Int).toNat = 3 from rfl, Nat.reduceMul, Nat.reduceEqDiff, Go.Addr.add, ↓reduceIte] at hx338_0)
                            have qi338 : (3 < (rd_L1 t307 x207_3).length) = True := eq_true (by omega)
                            (try rw [show ((3 : Int)).toNat = 3 from rfl] at hx338_0)
                            replace p338 := eq_true p338
                            replace q338 := eq_true q338
                            have p341 : 0 ≤ (0 : Int) := (by omega)
                            have q341 : 0 < ((rd_L1 t307 (ji79)).length : Int) := of_decide_eq_true (by first | (with_reducible assumption) | assumption)
                            obtain ⟨ad341, e341, hx341_0⟩ := Kd.at_int (by repeat (first | (with_reducible exact HR340_0.out) | (with_reducible refine Kd.C_alloc ?_ _) | (with_reducible refine Kd.C_drewN ?_ _) | (with_reducible refine Kd.C_drew ?_) | exact HR340_0.out)) 0 p341 q341
                            cases e341
                            have qi341 : (0 < (rd_L1 t307 (ji79)).length) = True := eq_true (by omega)
                            (try rw [show ((0 : Int)).toNat = 0 from rfl] at hx341_0)
                            (try rw [Addr.add_zero'] at hx341_0)
                            replace p341 := eq_true p341
                            replace q341 := eq_true q341
                            have p342 : 0 ≤ (1 : Int) := (by omega)
                            have q342 : 1 < ((rd_L1 t307 x207_3).length : Int) := of_decide_eq_true (by first | (with_reducible assumption) | assumption)
                            obtain ⟨ad342, e342, hx342_0⟩ := Kd.at_int (by repeat (first | (with_reducible exact HR333_0.out) | (with_reducible refine Kd.C_alloc ?_ _) | (with_reducible refine Kd.C_drewN ?_ _) | (with_reducible refine Kd.C_drew ?_) | exact HR333_0.out)) 1 p342 q342
                            obtain rfl : ad334 = ad342 := (by injection e342)
                            (try simp only [show (1 : Int).toNat = 1 from rfl, Nat.reduceMul, Nat.reduceEqDiff, Go.Addr.add, ↓reduceIte] at hx342_0)
                            have qi342 : (1 < (rd_L1 t307 x207_3).length) = True := eq_true (by omega)
                            (try rw [show ((1 : Int)).toNat = 1 from rfl] at hx342_0)
                            replace p342 := eq_true p342
                            replace q342 := eq_true q342
                            have p343 : 0 ≤ (0 : Int) := (by omega)
                            have q343 : 0 < ((rd_L1 t307 x207_3).length : Int) := of_decide_eq_true (by first | (with_reducible assumption) | assumption)
                            obtain ⟨ad343, e343, hx343_0⟩ := Kd.at_int (by repeat (first | (with_reducible exact HR333_0.out) | (with_reducible refine Kd.C_alloc ?_ _) | (with_reducible refine Kd.C_drewN ?_ _) | (with_reducible refine Kd.C_drew ?_) | exact HR333_0.out)) 0 p343 q343
                            obtain rfl : ad334 = ad343 := (by injection e343)
                            have qi343 : (0 < (rd_L1 t307 x207_3).length) = True := eq_true (by omega)
                            (try rw [show ((0 : Int)).toNat = 0 from rfl] at hx343_0)
                            (try rw [Addr.add_zero'] at hx343_0)
                            replace p343 := eq_true p343
                            replace q343 := eq_true q343
                            have p345 : 0 ≤ (1 : Int) := (by omega)
                            have q345 : 1 < ((rd_L1 t307 (ji79)).length : Int) := of_decide_eq_true (by first | (with_reducible assumption) | assumption)
                            obtain ⟨ad345, e345, hx345_0⟩ := Kd.at_int (by repeat (first | (with_reducible exact HR344_0.out) | (with_reducible refine Kd.C_alloc ?_ _) | (with_reducible refine Kd.C_drewN ?_ _) | (with_reducible refine Kd.C_drew ?_) | exact HR344_0.out)) 1 p345 q345
                            obtain rfl : ad341 = ad345 := (by injection e345)
                            (try simp only [show (1 : Int).toNat = 1 from rfl, Nat.reduceMul, Nat.reduceEqDiff, Go.Addr.add, ↓reduceIte] at hx345_0)
                            have qi345 : (1 < (rd_L1 t307 (ji79)).length) = True := eq_true (by omega)
                            (try rw [show ((1 : Int)).toNat = 1 from rfl] at hx345_0)
                            replace p345 := eq_true p345
                            replace q345 := eq_true q345
                            refine start_ (n := 56) (S := fun w' => w'.cell? ad334 = some (.int .i64 (rd (rd_L1 t307 x207_3) 0)) ∧ w'.cell? ⟨ad334.block, ad334.off + 1, none⟩ = some (.int .i64 (rd (rd_L1 t307 x207_3) 1)) ∧ w'.cell? ⟨ad334.block, ad334.off + 2, none⟩ = some (.int .i64 (rd (rd_L1 t307 x207_3) 2)) ∧ w'.cell? ⟨ad334.block, ad334.off + 3, none⟩ = some (.int .i64 (rd (rd_L1 t307 x207_3) 3)) ∧ w'.cell? (ad333.add ((ji79)).toNat) = some (.slice (some ad341) (rd_L1 t307 (ji79)).length c340_0) ∧ w'.cell? ad341 = some (.int .i64 (rd (rd_L1 t307 (ji79)) 0)) ∧ w'.cell? ⟨ad334.block, ad334.off + 1, none⟩ = some (.int .i64 (rd (rd_L1 t307 x207_3) 1)) ∧ w'.cell? ad334 = some (.int .i64 (rd (rd_L1 t307 x207_3) 0)) ∧ w'.cell? (ad333.add ((ji79)).toNat) = some (.slice (some ad341) (rd_L1 t307 (ji79)).length c340_0) ∧ w'.cell? ⟨ad341.block, ad341.off + 1, none⟩ = some (.int .i64 (rd (rd_L1 t307 (ji79)) 1))) (ds := []) #[false, false, false, false, false, false, false, false, false, false, false, false, false, false, false, false, false, false, false, false, false, false, false, false, false, false, false, false, false, false, false, false, false, false, false, false, false, false, false, false, false, false, false, false, false, false, false, false, false, false, false, false, false, false, false, false] (by kernel_rfl) rfl rfl ⟨hx334_0, hx335_0, hx337_0, hx338_0, hx340_0, hx341_0, hx342_0, hx343_0, hx344_0, hx345_0⟩ (fun hHeld => ?_); refine with_tabW laws_FnDogsTurnOfAll.tab15 laws_FnDogsTurnOfAll.bits15 (fun HT_ HW_ => ?_)
                            generalize wr.drew = w86 at HO_7 HO_205 HL333_0 BK305 BK306 HR333_0 HB HL340_0 HL344_0 HR340_0 HR344_0 hx334_0 hx335_0 hx340_0 hx344_0 hx337_0 hx338_0 hx341_0 hx342_0 hx343_0 hx345_0 hHeld ⊢
                            refine pu_ 0 212 56 1 ?_
                            refine pu_ 1 213 56 3 ?_
                            refine pu_ 2 214 56 7 ?_
                            refine pu_ 3 215 56 15 ?_
                            refine pu_ 4 216 56 31 ?_
                            refine pu_ 5 217 56 63 ?_
                            refine pu_ 7 219 56 191 ?_
                            refine pu_ 8 220 56 447 ?_
                            refine tk_ 6 218 56 511 hHeld ?_
                            refine tk_ 9 221 56 1023 hHeld ?_
                            refine one_ (i := 10) (N := some 222) (pm_ 56 2047) rfl rfl (one_of HT_.out (by kernel_rfl)) (by decide) (fun K hK => ?_)
                            refine goes_ Tryd.func13 (by kernel_rfl) rfl #[.int .i64 (rd (rd_L1 t307 x207_3) 0), .int .i64 (rd (rd_L1 t307 x207_3) 1)] (by rfl) rfl rfl (by (try simp only [List.map_toArray, List.map_cons, List.map_nil]); first | done | rfl | (simp only [List.length_drop, List.length_take]; rfl)) ?_
                            with_reducible refine (laws_yLow.calls k3 (rd (rd_L1 t307 x207_3) 0) (rd (rd_L1 t307 x207_3) 1) true _ A72.out).mono ?_
                            rintro e w' ⟨rfl, ⟨nd, rfl⟩⟩
                            refine ⟨_, rfl, ?_⟩
                            refine hK.out _ _ ⟨hHeld.1, hHeld.2.1, hHeld.2.2.1, hHeld.2.2.2.1, hHeld.2.2.2.2.1, hHeld.2.2.2.2.2.1, hHeld.2.2.2.2.2.2.1, hHeld.2.2.2.2.2.2.2.1, hHeld.2.2.2.2.2.2.2.2.1, hHeld.2.2.2.2.2.2.2.2.2⟩ (fun hHeld => ?_)
                            clear hK K
                            refine norm_ (a' := ?_) ?_ ?_
                            rotate_left
                            ·
                             show Act.put _ (some 222) _ = _
                             simp only [Act.put, List.setIfInBounds_toArray, List.set_cons_zero, List.set_cons_succ, i64_w, i32_w]
                             rfl
                            refine pu_ 11 223 56 4095 ?_
                            refine pu_ 12 224 56 8191 ?_
                            refine pu_ 13 225 56 16383 ?_
                            refine pu_ 14 226 56 32767 ?_
                            refine pu_ 15 227 56 65535 ?_
                            refine pu_ 17 229 56 196607 ?_
                            refine pu_ 18 230 56 458751 ?_
                            refine tk_ 16 228 56 524287 hHeld ?_
                            refine tk_ 19 231 56 1048575 hHeld ?_
                            refine one_ (i := 20) (N := some 232) (pm_ 56 2097151) rfl rfl (one_of HT_.out (by kernel_rfl)) (by decide) (fun K hK => ?_)
                            refine goes_ Tryd.func13 (by kernel_rfl) rfl #[.int .i64 (rd (rd_L1 t307 x207_3) 2), .int .i64 (rd (rd_L1 t307 x207_3) 3)] (by rfl) rfl rfl (by (try simp only [List.map_toArray, List.map_cons, List.map_nil]); first | done | rfl | (simp only [List.length_drop, List.length_take]; rfl)) ?_
                            with_reducible refine (laws_yLow.calls k3 (rd (rd_L1 t307 x207_3) 2) (rd (rd_L1 t307 x207_3) 3) true _ A76.out).mono ?_
                            rintro e w' ⟨rfl, ⟨nd, rfl⟩⟩
                            refine ⟨_, rfl, ?_⟩
                            refine hK.out _ _ ⟨hHeld.1, hHeld.2.1, hHeld.2.2.1, hHeld.2.2.2.1, hHeld.2.2.2.2.1, hHeld.2.2.2.2.2.1, hHeld.2.2.2.2.2.2.1, hHeld.2.2.2.2.2.2.2.1, hHeld.2.2.2.2.2.2.2.2.1, hHeld.2.2.2.2.2.2.2.2.2⟩ (fun hHeld => ?_)
                            clear hK K
                            refine norm_ (a' := ?_) ?_ ?_
                            rotate_left
                            ·
                             show Act.put _ (some 232) _ = _
                             simp only [Act.put, List.setIfInBounds_toArray, List.set_cons_zero, List.set_cons_succ, i64_w, i32_w]
                             rfl
                            refine pu_ 21 233 56 4194303 ?_
                            refine pu_ 22 234 56 8388607 ?_
                            refine pu_ 23 235 56 16777215 ?_
                            refine pu_ 24 236 56 33554431 ?_
                            refine pu_ 25 237 56 67108863 ?_
                            refine pu_ 26 238 56 134217727 ?_
                            refine pu_ 27 239 56 268435455 ?_
                            refine pu_ 28 240 56 536870911 ?_
                            refine pu_ 29 241 56 1073741823 ?_
                            refine pu_ 30 242 56 2147483647 ?_
                            refine pu_ 34 246 56 19327352831 ?_
                            refine pu_ 35 247 56 53687091199 ?_
                            refine pu_ 38 250 56 328564998143 ?_
                            refine pu_ 39 251 56 878320812031 ?_
                            refine pu_ 41 253 56 3077344067583 ?_
                            refine pu_ 42 254 56 7475390578687 ?_
                            refine pu_ 43 255 56 16271483600895 ?_
                            refine pu_ 44 256 56 33863669645311 ?_
                            refine tk_ 31 243 56 33865817128959 hHeld ?_
                            refine pu_ 32 244 56 33870112096255 ?_
                            refine tk_ 33 245 56 33878702030847 hHeld ?_
                            refine tk_ 36 248 56 33947421507583 hHeld ?_
                            refine pu_ 37 249 56 34084860461055 ?_
                            refine tk_ 40 252 56 35184372088831 hHeld ?_
                            refine tk_ 45 257 56 70368744177663 hHeld ?_
                            refine pu_ 46 258 56 140737488355327 ?_
                            refine tk_ 47 259 56 281474976710655 hHeld ?_
                            refine pu_ 48 260 56 562949953421311 ?_
                            refine pu_ 49 261 56 1125899906842623 ?_
                            refine pu_ 50 262 56 2251799813685247 ?_
                            refine pu_ 51 263 56 4503599627370495 ?_
                            refine po_ 52 264 56 9007199254740991 ?_
                            refine po_ 53 265 56 18014398509481983 ?_
                            refine pu_ 54 266 56 36028797018963967 ?_
                            refine pu_ 55 267 56 72057594037927935 ?_
                            refine done_ (done_of HT_.out (by kernel_rfl)) ?_
                            try go_wp2
                            go_meet
                            case rel => exact ⟨_, (false), (by first | rfl | (simp; done) | (simp [*]; done)), H', ⟨by have := HJ9.out; have := HJ55.out; have := HK3.out; first | omega | exact Nat.le_refl _⟩, ⟨by (with_reducible repeat (first | apply Kd.S_alloc | apply Kd.S_drewN | apply Kd.S_drew)); exact HO_7.out⟩, ⟨by (with_reducible repeat (first | apply Kd.S_alloc | apply Kd.S_drewN | apply Kd.S_drew)); exact HO_205.out⟩, ⟨bk_⟩, ⟨bk_⟩, ⟨by repeat (first | (with_reducible exact HR333_0.out) | (with_reducible refine Kd.C_alloc ?_ _) | (with_reducible refine Kd.C_drewN ?_ _) | (with_reducible refine Kd.C_drew ?_) | exact HR333_0.out)⟩, ⟨bw_⟩⟩
                          ·
                           rw [if_neg c83] at H
                           exact absurd H (by simp)
                         ·
                          rw [if_neg c82] at H
                          exact absurd H (by simp)
                        ·
                         rw [if_neg c81] at H
                         exact absurd H (by simp)
                       ·
                        rw [if_neg c80] at H
                        exact absurd H (by simp)
                      ·
                       rw [if_neg c78] at H
                       have c78b0 : decide (0 < x207_3) = false := decide_eq_false c78
                       clear c78
                       have H' := Aside0.mk H
                       clear H
                       try go_wp2
                       have n0_ := Aside0.mk (Kd.S_drew HO_7.out)
                       have n1_ := Aside0.mk (Kd.S_drew HO_205.out)
                       have n2_ := Aside0.mk (Kd.R_drew HL333_0.out)
                       have n3_ := Aside0.mk (blk_drew BK305.out)
                       have n4_ := Aside0.mk (blk_drew BK306.out)
                       have n5_ := Aside0.mk (Kd.C_drew HR333_0.out)
                       have n6_ := Aside0.mk (below_drew1 HB.out)
                       clear HO_7
                       clear HO_205
                       clear HL333_0
                       clear BK305
                       clear BK306
                       clear HR333_0
                       clear HB
                       have HO_7 := n0_
                       have HO_205 := n1_
                       have HL333_0 := n2_
                       have BK305 := n3_
                       have BK306 := n4_
                       have HR333_0 := n5_
                       have HB := n6_
                       clear n0_ n1_ n2_ n3_ n4_ n5_ n6_
                       have p334 : 0 ≤ (0 : Int) := (by omega)
                       have q334 : 0 < ((rd_L1 t307 x207_3).length : Int) := of_decide_eq_true (by first | (with_reducible assumption) | assumption)
                       obtain ⟨ad334, e334, hx334_0⟩ := Kd.at_int (by repeat (first | (with_reducible exact HR333_0.out) | (with_reducible refine Kd.C_alloc ?_ _) | (with_reducible refine Kd.C_drewN ?_ _) | (with_reducible refine Kd.C_drew ?_) | exact HR333_0.out)) 0 p334 q334
                       cases e334
                       have qi334 : (0 < (rd_L1 t307 x207_3).length) = True := eq_true (by omega)
                       (try rw [show ((0 : Int)).toNat = 0 from rfl] at hx334_0)
                       (try rw [Addr.add_zero'] at hx334_0)
                       replace p334 := eq_true p334
                       replace q334 := eq_true q334
                       have p335 : 0 ≤ (1 : Int) := (by omega)
                       have q335 : 1 < ((rd_L1 t307 x207_3).length : Int) := of_decide_eq_true (by first | (with_reducible assumption) | assumption)
                       obtain ⟨ad335, e335, hx335_0⟩ := Kd.at_int (by repeat (first | (with_reducible exact HR333_0.out) | (with_reducible refine Kd.C_alloc ?_ _) | (with_reducible refine Kd.C_drewN ?_ _) | (with_reducible refine Kd.C_drew ?_) | exact HR333_0.out)) 1 p335 q335
                       obtain rfl : ad334 = ad335 := (by injection e335)
                       (try simp only [show (1 : Int).toNat = 1 from rfl, Nat.reduceMul, Nat.reduceEqDiff, Go.Addr.add, ↓reduceIte] at hx335_0)
                       have qi335 : (1 < (rd_L1 t307 x207_3).length) = True := eq_true (by omega)
                       (try rw [show ((1 : Int)).toNat = 1 from rfl] at hx335_0)
                       replace p335 := eq_true p335
                       replace q335 := eq_true q335
                       have p337 : 0 ≤ (2 : Int) := (by omega)
                       have q337 : 2 < ((rd_L1 t307 x207_3).length : Int) := of_decide_eq_true (by first | (with_reducible assumption) | assumption)
                       obtain ⟨ad337, e337, hx337_0⟩ := Kd.at_int (by repeat (first | (with_reducible exact HR333_0.out) | (with_reducible refine Kd.C_alloc ?_ _) | (with_reducible refine Kd.C_drewN ?_ _) | (with_reducible refine Kd.C_drew ?_) | exact HR333_0.out)) 2 p337 q337
                       obtain rfl : ad334 = ad337 := (by injection e337)
                       (try simp only [show (2 : Int).toNat = 2 from rfl, Nat.reduceMul, Nat.reduceEqDiff, Go.Addr.add, ↓reduceIte] at hx337_0)
                       have qi337 : (2 < (rd_L1 t307 x207_3).length) = True := eq_true (by omega)
                       (try rw [show ((2 : Int)).toNat = 2 from rfl] at hx337_0)
                       replace p337 := eq_true p337
                       replace q337 := eq_true q337
                       have p338 : 0 ≤ (3 : Int) := (by omega)
                       have q338 : 3 < ((rd_L1 t307 x207_3).length : Int) := of_decide_eq_true (by first | (with_reducible assumption) | assumption)
                       obtain ⟨ad338, e338, hx338_0⟩ := Kd.at_int (by repeat (first | (with_reducible exact HR333_0.out) | (with_reducible refine Kd.C_alloc ?_ _) | (with_reducible refine Kd.C_drewN ?_ _) | (with_reducible refine Kd.C_drew ?_) | exact HR333_0.out)) 3 p338 q338
                       obtain rfl : ad334 = ad338 := (by injection e338)
                       (try simp only [show (3 : Int).toNat = 3 from rfl, Nat.reduceMul, Nat.reduceEqDiff, Go.Addr.add, ↓reduceIte] at hx338_0)
                       have qi338 : (3 < (rd_L1 t307 x207_3).length) = True := eq_true (by omega)
                       (try rw [show ((3 : Int)).toNat = 3 from rfl] at hx338_0)
                       replace p338 := eq_true p338
                       replace q338 := eq_true q338
                       refine start_ (n := 56) (S := fun w' => w'.cell? ad334 = some (.int .i64 (rd (rd_L1 t307 x207_3) 0)) ∧ w'.cell? ⟨ad334.block, ad334.off + 1, none⟩ = some (.int .i64 (rd (rd_L1 t307 x207_3) 1)) ∧ w'.cell? ⟨ad334.block, ad334.off + 2, none⟩ = some (.int .i64 (rd (rd_L1 t307 x207_3) 2)) ∧ w'.cell? ⟨ad334.block, ad334.off + 3, none⟩ = some (.int .i64 (rd (rd_L1 t307 x207_3) 3))) (ds := []) #[false, false, false, false, false, false, false, false, false, false, false, false, false, false, false, false, false, false, false, false, false, false, false, false, false, false, false, false, false, false, false, false, false, false, false, false, false, false, false, false, false, false, false, false, false, false, false, false, false, false, false, false, false, false, false, false] (by kernel_rfl) rfl rfl ⟨hx334_0, hx335_0, hx337_0, hx338_0⟩ (fun hHeld => ?_); refine with_tabW laws_FnDogsTurnOfAll.tab15 laws_FnDogsTurnOfAll.bits15 (fun HT_ HW_ => ?_)
                       generalize wr.drew = w87 at HO_7 HO_205 HL333_0 BK305 BK306 HR333_0 HB hx334_0 hx335_0 hx337_0 hx338_0 hHeld ⊢
                       refine pu_ 0 212 56 1 ?_
                       refine pu_ 1 213 56 3 ?_
                       refine pu_ 2 214 56 7 ?_
                       refine pu_ 3 215 56 15 ?_
                       refine pu_ 4 216 56 31 ?_
                       refine pu_ 5 217 56 63 ?_
                       refine pu_ 7 219 56 191 ?_
                       refine pu_ 8 220 56 447 ?_
                       refine tk_ 6 218 56 511 hHeld ?_
                       refine tk_ 9 221 56 1023 hHeld ?_
                       refine one_ (i := 10) (N := some 222) (pm_ 56 2047) rfl rfl (one_of HT_.out (by kernel_rfl)) (by decide) (fun K hK => ?_)
                       refine goes_ Tryd.func13 (by kernel_rfl) rfl #[.int .i64 (rd (rd_L1 t307 x207_3) 0), .int .i64 (rd (rd_L1 t307 x207_3) 1)] (by rfl) rfl rfl (by (try simp only [List.map_toArray, List.map_cons, List.map_nil]); first | done | rfl | (simp only [List.length_drop, List.length_take]; rfl)) ?_
                       with_reducible refine (laws_yLow.calls k3 (rd (rd_L1 t307 x207_3) 0) (rd (rd_L1 t307 x207_3) 1) true _ A72.out).mono ?_
                       rintro e w' ⟨rfl, ⟨nd, rfl⟩⟩
                       refine ⟨_, rfl, ?_⟩
                       refine hK.out _ _ ⟨hHeld.1, hHeld.2.1, hHeld.2.2.1, hHeld.2.2.2⟩ (fun hHeld => ?_)
                       clear hK K
                       refine norm_ (a' := ?_) ?_ ?_
                       rotate_left
                       ·
                        show Act.put _ (some 222) _ = _
                        simp only [Act.put, List.setIfInBounds_toArray, List.set_cons_zero, List.set_cons_succ, i64_w, i32_w]
                        rfl
                       refine pu_ 11 223 56 4095 ?_
                       refine pu_ 12 224 56 8191 ?_
                       refine pu_ 13 225 56 16383 ?_
                       refine pu_ 14 226 56 32767 ?_
                       refine pu_ 15 227 56 65535 ?_
                       refine pu_ 17 229 56 196607 ?_
                       refine pu_ 18 230 56 458751 ?_
                       refine tk_ 16 228 56 524287 hHeld ?_
                       refine tk_ 19 231 56 1048575 hHeld ?_
                       refine one_ (i := 20) (N := some 232) (pm_ 56 2097151) rfl rfl (one_of HT_.out (by kernel_rfl)) (by decide) (fun K hK => ?_)
                       refine goes_ Tryd.func13 (by kernel_rfl) rfl #[.int .i64 (rd (rd_L1 t307 x207_3) 2), .int .i64 (rd (rd_L1 t307 x207_3) 3)] (by rfl) rfl rfl (by (try simp only [List.map_toArray, List.map_cons, List.map_nil]); first | done | rfl | (simp only [List.length_drop, List.length_take]; rfl)) ?_
                       with_reducible refine (laws_yLow.calls k3 (rd (rd_L1 t307 x207_3) 2) (rd (rd_L1 t307 x207_3) 3) true _ A76.out).mono ?_
                       rintro e w' ⟨rfl, ⟨nd, rfl⟩⟩
                       refine ⟨_, rfl, ?_⟩
                       refine hK.out _ _ ⟨hHeld.1, hHeld.2.1, hHeld.2.2.1, hHeld.2.2.2⟩ (fun hHeld => ?_)
                       clear hK K
                       refine norm_ (a' := ?_) ?_ ?_
                       rotate_left
                       ·
                        show Act.put _ (some 232) _ = _
                        simp only [Act.put, List.setIfInBounds_toArray, List.set_cons_zero, List.set_cons_succ, i64_w, i32_w]
                        rfl
                       refine pu_ 21 233 56 4194303 ?_
                       refine pu_ 22 234 56 8388607 ?_
                       refine pu_ 23 235 56 16777215 ?_
                       refine pu_ 24 236 56 33554431 ?_
                       refine pu_ 25 237 56 67108863 ?_
                       refine pu_ 26 238 56 134217727 ?_
                       refine po_ 27 239 56 268435455 ?_
                       refine po_ 28 240 56 536870911 ?_
                       refine po_ 29 241 56 1073741823 ?_
                       refine po_ 30 242 56 2147483647 ?_
                       refine po_ 31 243 56 4294967295 ?_
                       refine po_ 32 244 56 8589934591 ?_
                       refine po_ 33 245 56 17179869183 ?_
                       refine po_ 34 246 56 34359738367 ?_
                       refine po_ 35 247 56 68719476735 ?_
                       refine po_ 36 248 56 137438953471 ?_
                       refine po_ 37 249 56 274877906943 ?_
                       refine po_ 38 250 56 549755813887 ?_
                       refine po_ 39 251 56 1099511627775 ?_
                       refine po_ 40 252 56 2199023255551 ?_
                       refine po_ 41 253 56 4398046511103 ?_
                       refine po_ 42 254 56 8796093022207 ?_
                       refine po_ 43 255 56 17592186044415 ?_
                       refine po_ 44 256 56 35184372088831 ?_
                       refine po_ 45 257 56 70368744177663 ?_
                       refine po_ 46 258 56 140737488355327 ?_
                       refine po_ 47 259 56 281474976710655 ?_
                       refine po_ 48 260 56 562949953421311 ?_
                       refine po_ 49 261 56 1125899906842623 ?_
                       refine pu_ 50 262 56 2251799813685247 ?_
                       refine pu_ 51 263 56 4503599627370495 ?_
                       refine po_ 52 264 56 9007199254740991 ?_
                       refine po_ 53 265 56 18014398509481983 ?_
                       refine pu_ 54 266 56 36028797018963967 ?_
                       refine pu_ 55 267 56 72057594037927935 ?_
                       refine done_ (done_of HT_.out (by kernel_rfl)) ?_
                       try go_wp2
                       go_meet
                       case rel => exact ⟨_, (false), (by first | rfl | (simp; done) | (simp [*]; done)), H', ⟨by have := HJ9.out; have := HJ55.out; have := HK3.out; first | omega | exact Nat.le_refl _⟩, ⟨by (with_reducible repeat (first | apply Kd.S_alloc | apply Kd.S_drewN | apply Kd.S_drew)); exact HO_7.out⟩, ⟨by (with_reducible repeat (first | apply Kd.S_alloc | apply Kd.S_drewN | apply Kd.S_drew)); exact HO_205.out⟩, ⟨bk_⟩, ⟨bk_⟩, ⟨by repeat (first | (with_reducible exact HR333_0.out) | (with_reducible refine Kd.C_alloc ?_ _) | (with_reducible refine Kd.C_drewN ?_ _) | (with_reducible refine Kd.C_drew ?_) | exact HR333_0.out)⟩, ⟨bw_⟩⟩
                     ·
                      replace c77 := Bool.eq_false_iff.mpr c77
                      subst c77
                      rw [if_neg (show ¬ (false = true) by decide)] at H
                      exact absurd (H.trans (congrArg some HRT.out)) (by cases k3 <;> simp [laws_FnDogsTurnOfAll.j3])
                    ·
                     rw [if_neg c75] at H
                     exact absurd H (by simp)
                   ·
                    rw [if_neg c74] at H
                    exact absurd H (by simp)
                  ·
                   replace c73 := Bool.eq_false_iff.mpr c73
                   subst c73
                   rw [if_neg (show ¬ (false = true) by decide)] at H
                   exact absurd (H.trans (congrArg some HRT.out)) (by cases k3 <;> simp [laws_FnDogsTurnOfAll.j3])
                 ·
                  rw [if_neg c71] at H
                  exact absurd H (by simp)
                ·
                 rw [if_neg c70] at H
                 exact absurd H (by simp)
               ·
                rw [if_neg c69] at H
                have c69b0 : (((rd_L1 t307 x207_3).length : Int) == 4) = false := beq_eq_false_iff_ne.mpr c69
                have c69b1 : (((rd_L1 t307 x207_3).length : Int) != 4) = true := bne_iff_ne.mpr c69
                (first | rw [c69b0] | (simp only [i64_w, i32_w]; rw [c69b0]) | skip)
                exact absurd (H.trans (congrArg some HRT.out)) (by cases k3 <;> simp [laws_FnDogsTurnOfAll.j3])
end Go.Proofs.YtajlcomankjcjaaDoor.PFnDogsTurnOfAll
