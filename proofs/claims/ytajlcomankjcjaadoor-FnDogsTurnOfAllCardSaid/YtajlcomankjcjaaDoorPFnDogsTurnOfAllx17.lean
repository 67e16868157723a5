-- Laid by a program of this session's (wip/gen/printp.sh): the functions that the law reaches, each with its walk.
import Derived.Test.YtajlcomankjcjaaDoorPFnDogsTurnOfAllx0
import Derived.Test.YtajlcomankjcjaaDoorPFnDogsTurnOfAllx1
import Derived.Test.YtajlcomankjcjaaDoorPFnDogsTurnOfAllx2
import Derived.Test.YtajlcomankjcjaaDoorPFnDogsTurnOfAllx5
import Derived.Test.YtajlcomankjcjaaDoorPFnDogsTurnOfAllx6
import Derived.Test.YtajlcomankjcjaaDoorPFnDogsTurnOfAllx7
import Derived.Test.YtajlcomankjcjaaDoorPFnDogsTurnOfAllx8
import Derived.Test.YtajlcomankjcjaaDoorPFnDogsTurnOfAllx9
import Derived.Test.YtajlcomankjcjaaDoorPFnDogsTurnOfAllx10
import Derived.Test.YtajlcomankjcjaaDoorPFnDogsTurnOfAllx11
import Derived.Test.YtajlcomankjcjaaDoorPFnDogsTurnOfAllx12
namespace Go.Proofs.YtajlcomankjcjaaDoor.PFnDogsTurnOfAll
open Go.RowKit Go.Proofs.YtajlcomankjcjaaDoorW.PrintWords Go.Proofs.YtajlcomankjcjaaDoorW.PrintLast Go.Proofs.YtajlcomankjcjaaDoorW.PrintMore
attribute [local go_sem] max2_int min2_int max_two min_two max_three min_three max_four min_four   -- for this text's walks alone
set_option linter.unusedVariables false
set_option linter.unusedSimpArgs false

attribute [local go_sem high] eqA23
set_option maxHeartbeats 80000000 in
set_option maxRecDepth 100000 in
theorem laws_FnDogsTurnOfAll.case5 (k : Nat) (a0_0 : Int) (a0_1 : Int) (a0_2 : Int) (a0_3 : Int) (a1 : Int) (a2_0 : Int) (a2_1 : Int) (a2_2 : Int) (a2_3 : Int) (r : Bool) (w : World) : (laws_FnDogsTurnOfAll.part k a0_0 a0_1 a0_2 a0_3 a1 a2_0 a2_1 a2_2 a2_3 r w).2.2.2.2.1 := by
                       intro hL0 HRT hu23 t307 t311 t314 A5 t315 t316 t317 A6 t318 t319 t320 A7 t321 t322 t323 A8 t324 t325 t326 A9 z1_ gb305 w11 GW305 GE305 gb306 w12 GW306 GE306 NB305_306 NB306_305 hnb13 hnc13 hcz14_0 hcz14_1 hcz14_2 hcz14_3 hfz14_0 hfz14_1 hfz14_2 hfz14_3 w15 hcz16_0 hcz16_1 hcz16_2 hcz16_3 hfz16_0 hfz16_1 hfz16_2 hfz16_3 w17 v312 hcz18_0 hcz18_1 hcz18_2 hcz18_3 hfz18_0 hfz18_1 hfz18_2 hfz18_3 w19 hcz20_0 hcz20_1 hcz20_2 hcz20_3 hfz20_0 hfz20_1 hfz20_2 hfz20_3 w21 hcz22_0 hcz22_1 hcz22_2 hcz22_3 hfz22_0 hfz22_1 hfz22_2 hfz22_3 w23 hcz24_0 hcz24_1 hcz24_2 hcz24_3 hfz24_0 hfz24_1 hfz24_2 hfz24_3 w25 z2_ z3_ z4_ z5_ u120 u121 u122 u123 u124 u125 u126 u127 u128 u129 u130 u131 u132 u133 u134 u135 u136 u137 u138 u139 u140 u141 u142 u143 u144 u145 u146 u147 u148 u149 u150 u151 u152 u153 u154 u155 u156 u157 u158 u159 u160 u161 u162 u163 u164 u165 u166 u167 u168 u169 u170 u171 u172 u173 u174 u175 u176 u177 u178 u179 u180 u181 u182 z6_ z7_ z8_ kj9 HJ9 z9_ z10_ z11_ z12_ z13_ A4 z14_ u185 u186 u187 u188 u189 u190 u191 u192 u193 u194 u195 u196 u197 u198 u199 u200 u201 u202 u203 z15_ z16_ z17_ kj55 HJ55 co64 wr u6 u23 u24 u25 u26 u27 u28 u29 u208 u209 u210 u211 z18_ z19_ z20_ z21_ z22_ z23_ z24_ z25_ z26_ z27_ z28_ z29_ z30_ z31_ z32_ z33_ z34_ z35_ z36_ z37_ z38_ z39_ z40_ z41_ z42_ z43_ z44_ z45_ z46_ z47_ z48_ z49_ z50_ z51_ z52_ z53_ z54_ z55_ z56_ z57_ z58_ z59_ z60_ z61_ z62_ z63_ z64_ z65_ z66_ z67_ z68_ z69_ z70_ z71_ z72_ u267 u268 u269 u270 u271 u272 u273 u274 u275 u276 u277 u278 u279 u280 u281 u282 u283 u284 u285 u286 u287 u288 u289 u290 u291 u292 u293 u294 u295 u296 u297 u298 u299 u300 u301 u302 u303 u304 u305 u306 u307 u308 u309 u310 u311 u312 z73_ z74_ z75_ z76_ z77_ z78_ z79_ z80_ z81_ z82_ z83_ z84_ z85_ z86_ z87_ z88_ u329 u330 u331 u332 u333 u334 u335 u336 u337 u338 u339 u340 u341 u342 u343 u344 u345 u346 u347 u348 u349 u350 u351 u352 u353 u354 u355 u356 u357 u358 u359 u360 u361 u362 u363 u364 u365 z89_ z90_ x207_3 z91_ z92_ z93_ k3 z94_ HK3 c65b0 c66b0 c67b0 ad333 c333_0 HO309 HO313 z95_ z96_ z97_ z98_ z99_ z100_ ve333_0 HC333_0 p333 q333 z101_ z102_ z103_ u212 u213 u214 u215 u216 u217 u218 u219 u220 u221 u222 u223 u224 u225 u226 u227 u228 u229 u230 u231 u232 u233 u234 u235 u236 u237 u238 u239 u240 u241 u242 u243 u244 u245 u246 u247 u248 u249 u250 u251 u252 u253 u254 u255 u256 u257 u258 u259 u260 u261 u262 u263 u264 u265 u266 kj67 HJ67 c89b0 c90b0 c90b1 c91b0 c91b1 c92b0 c92b1 c93b0 c93b1 HC94 ad346 hx333_0 HL333_0 z104_ qi346 p346 q346 qi347 p347 q347 qi348 p348 q348 qi349 p349 q349 z105_ z106_ w95 hx346_0 hx347_0 hx348_0 hx349_0 z107_ e347 e348 e349 e350 qi350 p350 q350 e351 qi351 p351 q351 e352 qi352 p352 q352 e353 qi353 p353 q353 e354 qi354 p354 q354 HT_ HW_ w96 HO_7 HO_205 BK305 BK306 HR333_0 HB hx350_0 hx351_0 hx352_0 hx353_0 hx354_0 hHeld z108_ z109_ z110_ z111_ wc u313 u314 u315 u316 u317 u318 u319 u320 u321 u322 u323 u324 u325 u326 u327 u328 hcut
                       clear HC94
                       (try clear c88); (try clear c89); (try clear c89b0); (try clear c90); (try clear c90b0); (try clear c90b1); (try clear c91); (try clear c91b0); (try clear c91b1); (try clear c92); (try clear c92b0); (try clear c92b1); (try clear c93); (try clear c93b0); (try clear c93b1); (try clear hx346_0); (try clear hx347_0); (try clear hx348_0); (try clear hx349_0); (try clear hx350_0); (try clear hx351_0); (try clear hx352_0); (try clear hx353_0); (try clear hx354_0); (try clear p346); (try clear p347); (try clear p348); (try clear p349); (try clear p350); (try clear p351); (try clear p352); (try clear p353); (try clear p354); (try clear q346); (try clear q347); (try clear q348); (try clear q349); (try clear q350); (try clear q351); (try clear q352); (try clear q353); (try clear q354)
                       obtain ⟨kq, x328_93, rfl, HA, HJ93, HO_7, HO_205, BK305, BK306, HR333_0, HB⟩ := hcut
                       cases kq with
                       | zero => exact absurd HA.out (by simp [laws_FnDogsTurnOfAll.j4])
                       | succ kj93 =>
                        have H := HA.out
                        clear HA
                        simp only [laws_FnDogsTurnOfAll.j4] at H
                        by_cases c101 : x328_93 = true
                        ·
                         subst c101
                         rw [if_pos rfl] at H
                         exact absurd ((Option.some.inj H).trans HRT.out) (by decide)
                        ·
                         replace c101 := Bool.eq_false_iff.mpr c101
                         subst c101
                         rw [if_neg (show ¬ (false = true) by decide)] at H
                         replace H := Option.bind_eq_some_iff.mp H
                         obtain ⟨⟨t355, t356, t357⟩, A1020, H⟩ := H
                         (try dsimp only at H)
                         have A102 := Aside0.mk A1020
                         clear A1020
                         by_cases c103 : t357 = true
                         ·
                          subst c103
                          rw [if_pos rfl] at H
                          by_cases c104 : 1 < ((rd_L1 t307 x207_3).length : Int)
                          ·
                           rw [if_pos c104] at H
                           have c104b0 : decide (1 < ((rd_L1 t307 x207_3).length : Int)) = true := decide_eq_true c104
                           have c104b1 : decide (1 < (rd_L1 t307 x207_3).length) = true := decide_eq_true (by omega)
                           clear c104
                           by_cases c105 : 0 < ((rd_L1 t307 x207_3).length : Int)
                           ·
                            rw [if_pos c105] at H
                            have c105b0 : decide (0 < ((rd_L1 t307 x207_3).length : Int)) = true := decide_eq_true c105
                            have c105b1 : decide (0 < (rd_L1 t307 x207_3).length) = true := decide_eq_true (by omega)
                            clear c105
                            by_cases c106 : (wrap64 (t355 * (rd (rd_L1 t307 x207_3) 1))) = (wrap64 (t356 * (wrap64 ((wrap64 (a0_0 * (rd (rd_L1 t307 x207_3) 1))) - (wrap64 ((wrap64 (a0_1 + a0_2)) * (rd (rd_L1 t307 x207_3) 0)))))))
                            ·
                             rw [if_pos c106] at H
                             have c106b0 : ((wrap64 (t355 * (rd (rd_L1 t307 x207_3) 1))) == (wrap64 (t356 * (wrap64 ((wrap64 (a0_0 * (rd (rd_L1 t307 x207_3) 1))) - (wrap64 ((wrap64 (a0_1 + a0_2)) * (rd (rd_L1 t307 x207_3) 0)))))))) = true := beq_iff_eq.mpr c106
                             have c106b1 : ((wrap64 (t355 * (rd (rd_L1 t307 x207_3) 1))) != (wrap64 (t356 * (wrap64 ((wrap64 (a0_0 * (rd (rd_L1 t307 x207_3) 1))) - (wrap64 ((wrap64 (a0_1 + a0_2)) * (rd (rd_L1 t307 x207_3) 0)))))))) = false := bne_eq_false_iff_eq.mpr c106
                             clear c106
                             have H' := Aside0.mk H
                             clear H
                             have hnb107 := NB305_306.out
                             have hnc107 := NB306_305.out
                             have hcz108_0 : wc.cell? ⟨gb305, 0, none⟩ = some (.int .i64 a0_0) := (blk_cell BK305.out 0).trans rfl
                             have hcz108_1 : wc.cell? ⟨gb305, 1, none⟩ = some (.int .i64 a0_1) := (blk_cell BK305.out 1).trans rfl
                             have hcz108_2 : wc.cell? ⟨gb305, 2, none⟩ = some (.int .i64 a0_2) := (blk_cell BK305.out 2).trans rfl
                             have hcz108_3 : wc.cell? ⟨gb305, 3, none⟩ = some (.int .i64 a0_3) := (blk_cell BK305.out 3).trans rfl
                             have hfz108_0 := blk_frozen BK305.out 0
                             have hfz108_1 := blk_frozen BK305.out 1
                             have hfz108_2 := blk_frozen BK305.out 2
                             have hfz108_3 := blk_frozen BK305.out 3
                             try go_wp2_with (first | ((with_reducible refine gate_callee (f := 6) rfl ?_); refine goesL_ (some 333) rfl rfl Tryd.func6 (by kernel_rfl) rfl #[.agg #[.int .i64 a0_0, .int .i64 a0_1, .int .i64 a0_2, .int .i64 a0_3], .int .i64 (wrap64 (x207_3 + 1))] rfl (by (try simp only [List.map_toArray, List.map_cons, List.map_nil]); first | done | rfl | (simp only [List.length_drop, List.length_take]; rfl)) ?_; (with_reducible refine (impl_ApartAfterTurn.calls kj93 a0_0 a0_1 a0_2 a0_3 (wrap64 (x207_3 + 1)) t355 t356 true _ A102.out).mono ?_); rintro e w109 ⟨rfl, hb⟩; refine ⟨_, rfl, ?_⟩; have n0_ := Aside0.mk (Kd.S_below (by (with_reducible repeat (first | apply Kd.S_alloc | apply Kd.S_drewN | apply Kd.S_drew)); exact HO_7.out) hb); have n1_ := Aside0.mk (Kd.S_below (by (with_reducible repeat (first | apply Kd.S_alloc | apply Kd.S_drewN | apply Kd.S_drew)); exact HO_205.out) hb); have n2_ := Aside0.mk (blk_below (g := gb305) (o := .cells #[.int .i64 a0_0, .int .i64 a0_1, .int .i64 a0_2, .int .i64 a0_3] 23 (0, 0)) bk_ hb); have n3_ := Aside0.mk (blk_below (g := gb306) (o := .cells #[.int .i64 a2_0, .int .i64 a2_1, .int .i64 a2_2, .int .i64 a2_3] 23 (0, 0)) bk_ hb); have n4_ := Aside0.mk (Kd.C_below (by repeat (first | (with_reducible exact HR333_0.out) | (with_reducible refine Kd.C_alloc ?_ _) | (with_reducible refine Kd.C_drewN ?_ _) | (with_reducible refine Kd.C_drew ?_) | exact HR333_0.out)) hb); have n5_ := Aside0.mk (below_step bw_ hb); clear HO_7; clear HO_205; clear BK305; clear BK306; clear HR333_0; clear HB; have HO_7 := n0_; have HO_205 := n1_; have BK305 := n2_; have BK306 := n3_; have HR333_0 := n4_; have HB := n5_; clear n0_ n1_ n2_ n3_ n4_ n5_; (try clear hb); (try clear hb2); (try clear hk); (try clear hi)))
                             have n0_ := Aside0.mk (Kd.S_drew HO_7.out)
                             have n1_ := Aside0.mk (Kd.S_drew HO_205.out)
                             have n2_ := Aside0.mk (blk_drew BK305.out)
                             have n3_ := Aside0.mk (blk_drew BK306.out)
                             have n4_ := Aside0.mk (Kd.C_drew HR333_0.out)
                             have n5_ := Aside0.mk (below_drew1 HB.out)
                             clear HO_7
                             clear HO_205
                             clear BK305
                             clear BK306
                             clear HR333_0
                             clear HB
                             have HO_7 := n0_
                             have HO_205 := n1_
                             have BK305 := n2_
                             have BK306 := n3_
                             have HR333_0 := n4_
                             have HB := n5_
                             clear n0_ n1_ n2_ n3_ n4_ n5_
                             have p358 : 0 ≤ (1 : Int) := (by omega)
                             have q358 : 1 < ((rd_L1 t307 x207_3).length : Int) := of_decide_eq_true (by first | (with_reducible assumption) | assumption)
                             obtain ⟨ad358, e358, hx358_0⟩ := Kd.at_int (by repeat (first | (with_reducible exact HR333_0.out) | (with_reducible refine Kd.C_alloc ?_ _) | (with_reducible refine Kd.C_drewN ?_ _) | (with_reducible refine Kd.C_drew ?_) | exact HR333_0.out)) 1 p358 q358
                             obtain rfl : ad346 = ad358 := (by injection e358)
                             (try simp only [show (1 : Int).toNat = 1 from rfl, Nat.reduceMul, Nat.reduceEqDiff, Go.Addr.add, ↓reduceIte] at hx358_0)
                             have qi358 : (1 < (rd_L1 t307 x207_3).length) = True := eq_true (by omega)
                             (try rw [show ((1 : Int)).toNat = 1 from rfl] at hx358_0)
                             replace p358 := eq_true p358
                             replace q358 := eq_true q358
                             have p359 : 0 ≤ (1 : Int) := (by omega)
                             have q359 : 1 < ((rd_L1 t307 x207_3).length : Int) := of_decide_eq_true (by first | (with_reducible assumption) | assumption)
                             obtain ⟨ad359, e359, hx359_0⟩ := Kd.at_int (by repeat (first | (with_reducible exact HR333_0.out) | (with_reducible refine Kd.C_alloc ?_ _) | (with_reducible refine Kd.C_drewN ?_ _) | (with_reducible refine Kd.C_drew ?_) | exact HR333_0.out)) 1 p359 q359
                             obtain rfl : ad346 = ad359 := (by injection e359)
                             (try simp only [show (1 : Int).toNat = 1 from rfl, Nat.reduceMul, Nat.reduceEqDiff, Go.Addr.add, ↓reduceIte] at hx359_0)
                             have qi359 : (1 < (rd_L1 t307 x207_3).length) = True := eq_true (by omega)
                             (try rw [show ((1 : Int)).toNat = 1 from rfl] at hx359_0)
                             replace p359 := eq_true p359
                             replace q359 := eq_true q359
                             have p360 : 0 ≤ (0 : Int) := (by omega)
                             have q360 : 0 < ((rd_L1 t307 x207_3).length : Int) := of_decide_eq_true (by first | (with_reducible assumption) | assumption)
                             obtain ⟨ad360, e360, hx360_0⟩ := Kd.at_int (by repeat (first | (with_reducible exact HR333_0.out) | (with_reducible refine Kd.C_alloc ?_ _) | (with_reducible refine Kd.C_drewN ?_ _) | (with_reducible refine Kd.C_drew ?_) | exact HR333_0.out)) 0 p360 q360
                             obtain rfl : ad346 = ad360 := (by injection e360)
                             have qi360 : (0 < (rd_L1 t307 x207_3).length) = True := eq_true (by omega)
                             (try rw [show ((0 : Int)).toNat = 0 from rfl] at hx360_0)
                             (try rw [Addr.add_zero'] at hx360_0)
                             replace p360 := eq_true p360
                             replace q360 := eq_true q360
                             refine start_ (n := 28) (S := fun w' => w'.cell? ⟨gb305, 0, none⟩ = some (.int .i64 a0_0) ∧ w'.cell? ⟨gb305, 1, none⟩ = some (.int .i64 a0_1) ∧ w'.cell? ⟨gb305, 2, none⟩ = some (.int .i64 a0_2) ∧ w'.cell? ⟨gb305, 3, none⟩ = some (.int .i64 a0_3) ∧ w'.cell? ⟨ad346.block, ad346.off + 1, none⟩ = some (.int .i64 (rd (rd_L1 t307 x207_3) 1)) ∧ w'.cell? ⟨ad346.block, ad346.off + 1, none⟩ = some (.int .i64 (rd (rd_L1 t307 x207_3) 1)) ∧ w'.cell? ad346 = some (.int .i64 (rd (rd_L1 t307 x207_3) 0))) (ds := []) #[false, false, false, false, false, false, false, false, false, false, false, false, false, false, false, false, false, false, false, false, false, false, false, false, false, false, false, false] (by kernel_rfl) rfl rfl ⟨(blk_cell BK305.out 0).trans rfl, (blk_cell BK305.out 1).trans rfl, (blk_cell BK305.out 2).trans rfl, (blk_cell BK305.out 3).trans rfl, hx358_0, hx359_0, hx360_0⟩ (fun hHeld => ?_); refine with_tabW laws_FnDogsTurnOfAll.tab23 laws_FnDogsTurnOfAll.bits23 (fun HT_ HW_ => ?_)
                             generalize w109.drew = w110 at HO_7 HO_205 BK305 BK306 HR333_0 HB hx358_0 hx359_0 hx360_0 hHeld ⊢
                             refine pu_ 0 337 28 1 ?_
                             refine pu_ 1 338 28 3 ?_
                             refine pu_ 2 339 28 7 ?_
                             refine pu_ 3 340 28 15 ?_
                             refine pu_ 4 341 28 31 ?_
                             refine pu_ 5 342 28 63 ?_
                             refine pu_ 8 345 28 319 ?_
                             refine pu_ 9 346 28 831 ?_
                             refine pu_ 11 348 28 2879 ?_
                             refine pu_ 12 349 28 6975 ?_
                             refine pu_ 15 352 28 39743 ?_
                             refine pu_ 17 354 28 170815 ?_
                             refine pu_ 20 357 28 1219391 ?_
                             refine pu_ 21 358 28 3316543 ?_
                             refine tk_ 6 343 28 3316607 hHeld ?_
                             refine pu_ 7 344 28 3316735 ?_
                             refine tk_ 10 347 28 3317759 hHeld ?_
                             refine tk_ 13 350 28 3325951 hHeld ?_
                             refine pu_ 14 351 28 3342335 ?_
                             refine tk_ 16 353 28 3407871 hHeld ?_
                             refine tk_ 18 355 28 3670015 hHeld ?_
                             refine pu_ 19 356 28 4194303 ?_
                             refine tk_ 22 359 28 8388607 hHeld ?_
                             refine pu_ 23 360 28 16777215 ?_
                             refine pu_ 24 361 28 33554431 ?_
                             refine pu_ 25 362 28 67108863 ?_
                             refine pu_ 26 363 28 134217727 ?_
                             refine pu_ 27 364 28 268435455 ?_
                             refine done_ (done_of HT_.out (by kernel_rfl)) ?_
                             try go_wp2
                             go_roundg kj93
                             case measure => have := HJ9.out; have := HJ55.out; have := HK3.out; have := HJ67.out; have := HJ93.out; omega
                             case rel => exact ⟨(wrap64 (x207_3 + 1)), (by first | rfl | (simp; done) | (simp [*]; done)), H', ⟨by have := HJ9.out; have := HJ55.out; have := HK3.out; have := HJ67.out; have := HJ93.out; omega⟩, ⟨by (with_reducible repeat (first | apply Kd.S_alloc | apply Kd.S_drewN | apply Kd.S_drew)); exact HO_7.out⟩, ⟨by (with_reducible repeat (first | apply Kd.S_alloc | apply Kd.S_drewN | apply Kd.S_drew)); exact HO_205.out⟩, ⟨bk_⟩, ⟨bk_⟩, ⟨bw_⟩⟩
                            ·
                             rw [if_neg c106] at H
                             have c106b0 : ((wrap64 (t355 * (rd (rd_L1 t307 x207_3) 1))) == (wrap64 (t356 * (wrap64 ((wrap64 (a0_0 * (rd (rd_L1 t307 x207_3) 1))) - (wrap64 ((wrap64 (a0_1 + a0_2)) * (rd (rd_L1 t307 x207_3) 0)))))))) = false := beq_eq_false_iff_ne.mpr c106
                             have c106b1 : ((wrap64 (t355 * (rd (rd_L1 t307 x207_3) 1))) != (wrap64 (t356 * (wrap64 ((wrap64 (a0_0 * (rd (rd_L1 t307 x207_3) 1))) - (wrap64 ((wrap64 (a0_1 + a0_2)) * (rd (rd_L1 t307 x207_3) 0)))))))) = true := bne_iff_ne.mpr c106
                             exact absurd ((Option.some.inj H).trans HRT.out) (by decide)
                           ·
                            rw [if_neg c105] at H
                            exact absurd H (by simp)
                          ·
                           rw [if_neg c104] at H
                           exact absurd H (by simp)
                         ·
                          replace c103 := Bool.eq_false_iff.mpr c103
                          subst c103
                          rw [if_neg (show ¬ (false = true) by decide)] at H
                          exact absurd ((Option.some.inj H).trans HRT.out) (by decide)
end Go.Proofs.YtajlcomankjcjaaDoor.PFnDogsTurnOfAll
