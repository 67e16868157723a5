-- Laid by a program of this session's (wip/gen/printp.sh): the functions that the law reaches, each with its walk.
import Derived.Test.YtgobnhoblofglaaPFnRunnersMeetOfAllx0
import Derived.Test.YtgobnhoblofglaaPFnRunnersMeetOfAllx1
import Derived.Test.YtgobnhoblofglaaPFnRunnersMeetOfAllx2
import Derived.Test.YtgobnhoblofglaaPFnRunnersMeetOfAllx3
import Derived.Test.YtgobnhoblofglaaPFnRunnersMeetOfAllx4
import Derived.Test.YtgobnhoblofglaaPFnRunnersMeetOfAllx5
import Derived.Test.YtgobnhoblofglaaPFnRunnersMeetOfAllx6
import Derived.Test.YtgobnhoblofglaaPFnRunnersMeetOfAllx7
import Derived.Test.YtgobnhoblofglaaPFnRunnersMeetOfAllx8
import Derived.Test.YtgobnhoblofglaaPFnRunnersMeetOfAllx9
import Derived.Test.YtgobnhoblofglaaPFnRunnersMeetOfAllx10
namespace Go.Proofs.Ytgobnhoblofglaa.PFnRunnersMeetOfAll
open Go.RowKit Go.Proofs.YtgobnhoblofglaaW.PrintWords Go.Proofs.YtgobnhoblofglaaW.PrintLast Go.Proofs.YtgobnhoblofglaaW.PrintMore
attribute [local go_sem] max2_int min2_int max_two min_two max_three min_three max_four min_four   -- for this text's walks alone
set_option linter.unusedVariables false
set_option linter.unusedSimpArgs false
set_option maxHeartbeats 80000000 in
set_option maxRecDepth 100000 in
theorem laws_FnRunnersMeetOfAll.case6 (k : Nat) (a0 : Int) (a1_0 : Int) (a1_1 : Int) (a2_0 : Int) (a2_1 : Int) (a3 : Int) (a4 : Int) (A5 : Option Addr) (c5 : Nat) (l5 : List (S45)) (r : Bool) (w : World) : (laws_FnRunnersMeetOfAll.part k a0 a1_0 a1_1 a2_0 a2_1 a3 a4 A5 c5 l5 r w).2.2.2.2.2.1 := by
             intro HRT hu45 HR5 HC5 t268 t271 A10 t272 t275 A11 t276 t277 A12 t278 t279 A13 t280 t281 t282 A14 t283 t284 t285 A15 t286 t289 A16 t290 t293 A17 t294 t295 A18 t296 t297 A19 z1_ gb266 w21 GW266 GE266 gb267 w22 GW267 GE267 NB266_267 NB267_266 hnb23 hnc23 w26 v269 w29 v273 w32 w35 w38 w41 w44 v287 w47 v291 w50 w53 HO270 HO274 HO288 HO292 z2_ z3_ z4_ z5_ u160 u161 u162 u163 u164 u165 u166 u167 u168 u169 u170 u171 u172 u173 u174 u175 u176 u177 u178 u179 u180 u181 u182 u183 u184 u185 u186 u187 u188 u189 u190 u191 u192 u193 u194 u195 u196 u197 u198 u199 u200 u201 u202 u203 u204 u205 u206 u207 u208 u209 u210 u211 u212 u213 u214 u215 u216 u217 u218 u219 u220 u221 u222 u223 u224 u225 u226 u227 u228 u229 u230 u231 u232 HO_13 z6_ z7_ z8_ z9_ kj19 HJ19 z10_ z11_ u36 u37 u38 u39 u40 u235 u236 u237 u238 u239 u240 u241 u242 u243 u244 u245 u246 u247 u248 u249 u250 u251 u252 u253 u254 u255 u256 u257 u258 u259 u260 u261 u262 u263 u264 u265 u266 u267 u268 u269 u270 u271 u272 u273 u274 u275 u276 u277 u278 u279 u280 u281 u282 u283 u284 u285 u286 u287 u288 u289 u290 u291 u292 u293 u294 u295 u296 u297 u298 u299 u300 u301 u302 u303 u304 u305 u306 u307 u308 u309 u310 u311 u312 u313 z12_ z13_ z14_ z15_ kj88 HJ88 z16_ u314 u315 u316 u317 u318 u319 u320 u321 u322 u323 u324 u325 u326 u327 u328 u329 u330 u331 u332 u333 u334 HO_27 z17_ z18_ z19_ kj125 HJ125 z20_ z21_ u41 u42 u43 u44 u45 u46 u47 u48 u49 u337 u338 u339 u340 u341 u342 u343 u344 u345 u346 u347 u348 u349 u350 u351 u352 u353 u354 u355 u356 u357 u358 u359 u360 u361 u362 u363 u364 u365 u366 u367 u368 u369 u370 u371 u372 u373 u374 u375 u376 u377 u378 u379 u380 u381 u382 u383 u384 u385 u386 u387 u388 u389 u390 u391 u392 u393 u394 u395 u396 u397 u398 u399 u400 u401 u402 u403 u404 u405 u406 u407 u408 u409 u410 u411 u412 u413 u414 u415 u416 u417 BK266 BK267 HB kj135 HJ135 HC183 z22_ z23_ wc u12 u50 u51 u52 u53 u54 u55 u419 u420 u421 u422 u423 u424 u425 u426 u427 u428 u429 u430 u431 u432 u433 u434 u435 u436 u437 u438 u439 u440 u441 u442 u443 u444 u445 u446 u447 u448 u449 u450 u451 u452 u453 u454 u455 u456 u457 u458 u459 u460 u461 u462 u463 u464 u465 u466 u467 u468 u469 u470 u471 u472 u473 u474 u475 u476 u477 u478 u479 u480 u481 u482 u483 u484 u485 u486 u487 u488 u489 u490 u491 u492 u493 u494 u495 u496 u497 u498 u499 u500 u501 u502 u503 u504 u505 u506 u507 u508 u509 u510 u511 u512 u513 u514 u515 u516 hcut
             clear HC183
             (try clear c5); (try clear c7); (try clear c88); (try clear c135); (try clear hcz24_0); (try clear hcz24_1); (try clear hcz25_0); (try clear hcz25_1); (try clear hcz27_0); (try clear hcz27_1); (try clear hcz28_0); (try clear hcz28_1); (try clear hcz30_0); (try clear hcz30_1); (try clear hcz31_0); (try clear hcz31_1); (try clear hcz33_0); (try clear hcz33_1); (try clear hcz34_0); (try clear hcz34_1); (try clear hcz36_0); (try clear hcz36_1); (try clear hcz37_0); (try clear hcz37_1); (try clear hcz39_0); (try clear hcz39_1); (try clear hcz40_0); (try clear hcz40_1); (try clear hcz42_0); (try clear hcz42_1); (try clear hcz43_0); (try clear hcz43_1); (try clear hcz45_0); (try clear hcz45_1); (try clear hcz46_0); (try clear hcz46_1); (try clear hcz48_0); (try clear hcz48_1); (try clear hcz49_0); (try clear hcz49_1); (try clear hcz51_0); (try clear hcz51_1); (try clear hcz52_0); (try clear hcz52_1); (try clear hfz24_0); (try clear hfz24_1); (try clear hfz25_0); (try clear hfz25_1); (try clear hfz27_0); (try clear hfz27_1); (try clear hfz28_0); (try clear hfz28_1); (try clear hfz30_0); (try clear hfz30_1); (try clear hfz31_0); (try clear hfz31_1); (try clear hfz33_0); (try clear hfz33_1); (try clear hfz34_0); (try clear hfz34_1); (try clear hfz36_0); (try clear hfz36_1); (try clear hfz37_0); (try clear hfz37_1); (try clear hfz39_0); (try clear hfz39_1); (try clear hfz40_0); (try clear hfz40_1); (try clear hfz42_0); (try clear hfz42_1); (try clear hfz43_0); (try clear hfz43_1); (try clear hfz45_0); (try clear hfz45_1); (try clear hfz46_0); (try clear hfz46_1); (try clear hfz48_0); (try clear hfz48_1); (try clear hfz49_0); (try clear hfz49_1); (try clear hfz51_0); (try clear hfz51_1); (try clear hfz52_0); (try clear hfz52_1)
             obtain ⟨kq, HA, HJ182, BK266, BK267, HB⟩ := hcut
             cases kq with
             | zero => exact absurd HA.out (by simp [laws_FnRunnersMeetOfAll.j11])
             | succ kj182 =>
              have H := HA.out
              clear HA
              simp only [laws_FnRunnersMeetOfAll.j11] at H
              replace H := Option.bind_eq_some_iff.mp H
              obtain ⟨⟨t329, t330⟩, A2480, H⟩ := H
              (try dsimp only at H)
              have A248 := Aside0.mk A2480
              clear A2480
              replace H := Option.bind_eq_some_iff.mp H
              obtain ⟨⟨t331, t332⟩, A2490, H⟩ := H
              (try dsimp only at H)
              have A249 := Aside0.mk A2490
              clear A2490
              replace H := Option.bind_eq_some_iff.mp H
              obtain ⟨⟨t333, t334⟩, A2500, H⟩ := H
              (try dsimp only at H)
              have A250 := Aside0.mk A2500
              clear A2500
              replace H := Option.bind_eq_some_iff.mp H
              obtain ⟨⟨t335, t336⟩, A2510, H⟩ := H
              (try dsimp only at H)
              have A251 := Aside0.mk A2510
              clear A2510
              have HC252 := Aside0.mk H
              clear H
              go_upto_region 63 with (first | ((with_reducible refine gate_callee (f := 37) rfl ?_); refine goesL_ (some 520) rfl rfl Try.func37 (by kernel_rfl) rfl #[.int .i64 a4, .slice A5 l5.length c5] rfl (by (try simp only [List.map_toArray, List.map_cons, List.map_nil]); first | done | rfl | (simp only [List.length_drop, List.length_take]; rfl)) ?_; (with_reducible refine (impl_AllRunnersTogether.calls kj182 a4 _ _ l5 t329 t330 _ ?side1 ?side2 A248.out).mono ?_); (case side1 => repeat (first | exact (Kd.C_below HR5.out HB.out) | (with_reducible refine Kd.C_alloc ?_ _) | (with_reducible refine Kd.C_drewN ?_ _) | (with_reducible refine Kd.C_drew ?_))); (case side2 => exact HC5.out); rintro e w253 ⟨rfl, hb⟩; refine ⟨_, rfl, ?_⟩; have n0_ := Aside0.mk (blk_below (g := gb266) (o := .cells #[.int .i64 a1_0, .int .i64 a1_1] 45 (0, 0)) bk_ hb); have n1_ := Aside0.mk (blk_below (g := gb267) (o := .cells #[.int .i64 a2_0, .int .i64 a2_1] 45 (0, 0)) bk_ hb); have n2_ := Aside0.mk (below_step bw_ hb); clear BK266; clear BK267; clear HB; have BK266 := n0_; have BK267 := n1_; have HB := n2_; clear n0_ n1_ n2_; (try clear hb); (try clear hb2); (try clear hk); (try clear hi)) | ((with_reducible refine gate_callee (f := 38) rfl ?_); refine goesL_ (some 526) rfl rfl Try.func38 (by kernel_rfl) rfl #[.int .i64 a4, .slice A5 l5.length c5] rfl (by (try simp only [List.map_toArray, List.map_cons, List.map_nil]); first | done | rfl | (simp only [List.length_drop, List.length_take]; rfl)) ?_; (with_reducible refine (spec_AllRunnersTogether.calls kj182 a4 _ _ l5 t331 t332 _ ?side1 ?side2 A249.out).mono ?_); (case side1 => repeat (first | exact (Kd.C_below HR5.out HB.out) | (with_reducible refine Kd.C_alloc ?_ _) | (with_reducible refine Kd.C_drewN ?_ _) | (with_reducible refine Kd.C_drew ?_))); (case side2 => exact HC5.out); rintro e w254 ⟨rfl, hb⟩; refine ⟨_, rfl, ?_⟩; have n0_ := Aside0.mk (blk_below (g := gb266) (o := .cells #[.int .i64 a1_0, .int .i64 a1_1] 45 (0, 0)) bk_ hb); have n1_ := Aside0.mk (blk_below (g := gb267) (o := .cells #[.int .i64 a2_0, .int .i64 a2_1] 45 (0, 0)) bk_ hb); have n2_ := Aside0.mk (below_step bw_ hb); clear BK266; clear BK267; clear HB; have BK266 := n0_; have BK267 := n1_; have HB := n2_; clear n0_ n1_ n2_; (try clear hb); (try clear hb2); (try clear hk); (try clear hi)) | ((with_reducible refine gate_callee (f := 36) rfl ?_); refine goesL_ (some 532) rfl rfl Try.func36 (by kernel_rfl) rfl #[.int .i64 a4, .slice A5 l5.length c5] rfl (by (try simp only [List.map_toArray, List.map_cons, List.map_nil]); first | done | rfl | (simp only [List.length_drop, List.length_take]; rfl)) ?_; (with_reducible refine (impl_RunPeriod.calls kj182 a4 _ _ l5 t333 t334 _ ?side1 ?side2 A250.out).mono ?_); (case side1 => repeat (first | exact (Kd.C_below HR5.out HB.out) | (with_reducible refine Kd.C_alloc ?_ _) | (with_reducible refine Kd.C_drewN ?_ _) | (with_reducible refine Kd.C_drew ?_))); (case side2 => exact HC5.out); rintro e w255 ⟨rfl, hb⟩; refine ⟨_, rfl, ?_⟩; have n0_ := Aside0.mk (blk_below (g := gb266) (o := .cells #[.int .i64 a1_0, .int .i64 a1_1] 45 (0, 0)) bk_ hb); have n1_ := Aside0.mk (blk_below (g := gb267) (o := .cells #[.int .i64 a2_0, .int .i64 a2_1] 45 (0, 0)) bk_ hb); have n2_ := Aside0.mk (below_step bw_ hb); clear BK266; clear BK267; clear HB; have BK266 := n0_; have BK267 := n1_; have HB := n2_; clear n0_ n1_ n2_; (try clear hb); (try clear hb2); (try clear hk); (try clear hi)) | ((with_reducible refine gate_callee (f := 39) rfl ?_); refine goesL_ (some 538) rfl rfl Try.func39 (by kernel_rfl) rfl #[.int .i64 a4, .slice A5 l5.length c5] rfl (by (try simp only [List.map_toArray, List.map_cons, List.map_nil]); first | done | rfl | (simp only [List.length_drop, List.length_take]; rfl)) ?_; (with_reducible refine (spec_RunPeriod.calls kj182 a4 _ _ l5 t335 t336 _ ?side1 ?side2 A251.out).mono ?_); (case side1 => repeat (first | exact (Kd.C_below HR5.out HB.out) | (with_reducible refine Kd.C_alloc ?_ _) | (with_reducible refine Kd.C_drewN ?_ _) | (with_reducible refine Kd.C_drew ?_))); (case side2 => exact HC5.out); rintro e w256 ⟨rfl, hb⟩; refine ⟨_, rfl, ?_⟩; have n0_ := Aside0.mk (blk_below (g := gb266) (o := .cells #[.int .i64 a1_0, .int .i64 a1_1] 45 (0, 0)) bk_ hb); have n1_ := Aside0.mk (blk_below (g := gb267) (o := .cells #[.int .i64 a2_0, .int .i64 a2_1] 45 (0, 0)) bk_ hb); have n2_ := Aside0.mk (below_step bw_ hb); clear BK266; clear BK267; clear HB; have BK266 := n0_; have BK267 := n1_; have HB := n2_; clear n0_ n1_ n2_; (try clear hb); (try clear hb2); (try clear hk); (try clear hi)))
              (try simp only [Act.put, List.setIfInBounds_toArray, List.set_cons_zero, List.set_cons_succ])
              go_cut [581] from 541 to 581 (fun v581 wc => ∃ (kq : Nat) (x581_251 : Bool), v581 = .bool x581_251 ∧ Aside0 (laws_FnRunnersMeetOfAll.j12 kq a4 l5 t329 t330 t333 t334 x581_251 = some r) ∧ Aside0 (kq ≤ kj182) ∧ Aside0 (wc.heap[gb266]? = some (.cells #[.int .i64 a1_0, .int .i64 a1_1] 45 (0, 0))) ∧ Aside0 (wc.heap[gb267]? = some (.cells #[.int .i64 a2_0, .int .i64 a2_1] 45 (0, 0))) ∧ Aside0 (Below w.heap.size w wc))
              case first => as_aux_lemma =>
               have H := HC252.out
               clear HC252
               by_cases c257 : (t330 != t332) = true
               ·
                rw [if_pos c257] at H
                have c257b0 : (t330 != t332) = true := c257
                (try (have c257b1 : decide (t330 = t332) = false := by simpa using c257))
                (try (have c257b2 : (t330 == t332) = false := by simpa using c257))
                (try (have c257b3 : ¬ (t330 = t332) := by simpa using c257))
                clear c257
                (first | rw [c257b0] | (simp only [i64_w, i32_w]; rw [c257b0]) | skip)
                exact absurd (H.trans (congrArg some HRT.out)) (by cases kj182 <;> simp [laws_FnRunnersMeetOfAll.j12])
               ·
                rw [if_neg c257] at H
                have c257b0 : (t330 != t332) = false := by simpa using c257
                (try (have c257b1 : decide (t330 = t332) = true := by simpa using c257))
                (try (have c257b2 : (t330 == t332) = true := by simpa using c257))
                clear c257
                (first | rw [c257b0] | (simp only [i64_w, i32_w]; rw [c257b0]) | skip)
                by_cases c258 : t329 = t331
                ·
                 rw [if_pos c258] at H
                 have c258b0 : (t329 == t331) = true := beq_iff_eq.mpr c258
                 have c258b1 : (t329 != t331) = false := bne_eq_false_iff_eq.mpr c258
                 clear c258
                 by_cases c259 : (t334 != t336) = true
                 ·
                  rw [if_pos c259] at H
                  have c259b0 : (t334 != t336) = true := c259
                  (try (have c259b1 : decide (t334 = t336) = false := by simpa using c259))
                  (try (have c259b2 : (t334 == t336) = false := by simpa using c259))
                  (try (have c259b3 : ¬ (t334 = t336) := by simpa using c259))
                  clear c259
                  exact absurd (H.trans (congrArg some HRT.out)) (by cases kj182 <;> simp [laws_FnRunnersMeetOfAll.j12])
                 ·
                  rw [if_neg c259] at H
                  have c259b0 : (t334 != t336) = false := by simpa using c259
                  (try (have c259b1 : decide (t334 = t336) = true := by simpa using c259))
                  (try (have c259b2 : (t334 == t336) = true := by simpa using c259))
                  clear c259
                  by_cases c260 : t333 = t335
                  ·
                   rw [if_pos c260] at H
                   have c260b0 : (t333 == t335) = true := beq_iff_eq.mpr c260
                   have c260b1 : (t333 != t335) = false := bne_eq_false_iff_eq.mpr c260
                   clear c260
                   replace H := Option.bind_eq_some_iff.mp H
                   obtain ⟨t337, A2610, H⟩ := H
                   (try dsimp only at H)
                   have A261 := Aside0.mk A2610
                   clear A2610
                   by_cases c262 : (t334 != t337) = true
                   ·
                    rw [if_pos c262] at H
                    have c262b0 : (t334 != t337) = true := c262
                    (try (have c262b1 : decide (t334 = t337) = false := by simpa using c262))
                    (try (have c262b2 : (t334 == t337) = false := by simpa using c262))
                    (try (have c262b3 : ¬ (t334 = t337) := by simpa using c262))
                    clear c262
                    exact absurd (H.trans (congrArg some HRT.out)) (by cases kj182 <;> simp [laws_FnRunnersMeetOfAll.j12])
                   ·
                    rw [if_neg c262] at H
                    have c262b0 : (t334 != t337) = false := by simpa using c262
                    (try (have c262b1 : decide (t334 = t337) = true := by simpa using c262))
                    (try (have c262b2 : (t334 == t337) = true := by simpa using c262))
                    clear c262
                    replace H := Option.bind_eq_some_iff.mp H
                    obtain ⟨t338, A2630, H⟩ := H
                    (try dsimp only at H)
                    have A263 := Aside0.mk A2630
                    have e338 : t337 = t338 := Option.some.inj (A261.out.symm.trans A263.out)
                    subst e338
                    clear A2630
                    replace H := Option.bind_eq_some_iff.mp H
                    obtain ⟨t339, A2640, H⟩ := H
                    (try dsimp only at H)
                    have A264 := Aside0.mk A2640
                    clear A2640
                    by_cases c265 : (t337 != t339) = true
                    ·
                     rw [if_pos c265] at H
                     have c265b0 : (t337 != t339) = true := c265
                     (try (have c265b1 : decide (t337 = t339) = false := by simpa using c265))
                     (try (have c265b2 : (t337 == t339) = false := by simpa using c265))
                     (try (have c265b3 : ¬ (t337 = t339) := by simpa using c265))
                     clear c265
                     exact absurd (H.trans (congrArg some HRT.out)) (by cases kj182 <;> simp [laws_FnRunnersMeetOfAll.j12])
                    ·
                     rw [if_neg c265] at H
                     have c265b0 : (t337 != t339) = false := by simpa using c265
                     (try (have c265b1 : decide (t337 = t339) = true := by simpa using c265))
                     (try (have c265b2 : (t337 == t339) = true := by simpa using c265))
                     clear c265
                     by_cases c266 : t330 = true
                     ·
                      subst c266
                      rw [if_pos rfl] at H
                      have H' := Aside0.mk H
                      clear H
                      go_wp2_with (first | (go_at_call 40; (with_reducible refine (impl_AreRunners.calls a4 _ _ l5 t337 _ ?side1 ?side2 A261.out).mono ?_); (case side1 => repeat (first | exact (Kd.C_below HR5.out HB.out) | (with_reducible refine Kd.C_alloc ?_ _) | (with_reducible refine Kd.C_drewN ?_ _) | (with_reducible refine Kd.C_drew ?_))); (case side2 => exact HC5.out); rintro e w267 ⟨rfl, hb⟩; have n0_ := Aside0.mk (blk_below (g := gb266) (o := .cells #[.int .i64 a1_0, .int .i64 a1_1] 45 (0, 0)) bk_ hb); have n1_ := Aside0.mk (blk_below (g := gb267) (o := .cells #[.int .i64 a2_0, .int .i64 a2_1] 45 (0, 0)) bk_ hb); have n2_ := Aside0.mk (below_step bw_ hb); clear BK266; clear BK267; clear HB; have BK266 := n0_; have BK267 := n1_; have HB := n2_; clear n0_ n1_ n2_; (try clear hb); (try clear hb2); (try clear hk); (try clear hi)) | (go_at_call 40; (with_reducible refine (impl_AreRunners.calls a4 _ _ l5 t337 _ ?side1 ?side2 A263.out).mono ?_); (case side1 => repeat (first | exact (Kd.C_below HR5.out HB.out) | (with_reducible refine Kd.C_alloc ?_ _) | (with_reducible refine Kd.C_drewN ?_ _) | (with_reducible refine Kd.C_drew ?_))); (case side2 => exact HC5.out); rintro e w268 ⟨rfl, hb⟩; have n0_ := Aside0.mk (blk_below (g := gb266) (o := .cells #[.int .i64 a1_0, .int .i64 a1_1] 45 (0, 0)) bk_ hb); have n1_ := Aside0.mk (blk_below (g := gb267) (o := .cells #[.int .i64 a2_0, .int .i64 a2_1] 45 (0, 0)) bk_ hb); have n2_ := Aside0.mk (below_step bw_ hb); clear BK266; clear BK267; clear HB; have BK266 := n0_; have BK267 := n1_; have HB := n2_; clear n0_ n1_ n2_; (try clear hb); (try clear hb2); (try clear hk); (try clear hi)) | (go_at_call 41; (with_reducible refine (spec_AreRunners.calls kj182 a4 _ _ l5 t339 _ ?side1 ?side2 A264.out).mono ?_); (case side1 => repeat (first | exact (Kd.C_below HR5.out HB.out) | (with_reducible refine Kd.C_alloc ?_ _) | (with_reducible refine Kd.C_drewN ?_ _) | (with_reducible refine Kd.C_drew ?_))); (case side2 => exact HC5.out); rintro e w269 ⟨rfl, hb⟩; have n0_ := Aside0.mk (blk_below (g := gb266) (o := .cells #[.int .i64 a1_0, .int .i64 a1_1] 45 (0, 0)) bk_ hb); have n1_ := Aside0.mk (blk_below (g := gb267) (o := .cells #[.int .i64 a2_0, .int .i64 a2_1] 45 (0, 0)) bk_ hb); have n2_ := Aside0.mk (below_step bw_ hb); clear BK266; clear BK267; clear HB; have BK266 := n0_; have BK267 := n1_; have HB := n2_; clear n0_ n1_ n2_; (try clear hb); (try clear hb2); (try clear hk); (try clear hi)))
                      go_meet
                      case rel => exact ⟨_, (!t334), (by first | rfl | (simp; done) | (simp [*]; done)), H', ⟨by have := HJ19.out; have := HJ88.out; have := HJ125.out; have := HJ135.out; have := HJ182.out; first | omega | exact Nat.le_refl _⟩, ⟨by (with_reducible repeat (first | refine blk_drewN ?_ _ | refine blk_drew ?_ | refine blk_alloc ?_ _)); exact BK266.out⟩, ⟨by (with_reducible repeat (first | refine blk_drewN ?_ _ | refine blk_drew ?_ | refine blk_alloc ?_ _)); exact BK267.out⟩, ⟨bw_⟩⟩
                     ·
                      replace c266 := Bool.eq_false_iff.mpr c266
                      subst c266
                      rw [if_neg (show ¬ (false = true) by decide)] at H
                      have H' := Aside0.mk H
                      clear H
                      go_wp2_with (first | (go_at_call 40; (with_reducible refine (impl_AreRunners.calls a4 _ _ l5 t337 _ ?side1 ?side2 A261.out).mono ?_); (case side1 => repeat (first | exact (Kd.C_below HR5.out HB.out) | (with_reducible refine Kd.C_alloc ?_ _) | (with_reducible refine Kd.C_drewN ?_ _) | (with_reducible refine Kd.C_drew ?_))); (case side2 => exact HC5.out); rintro e w270 ⟨rfl, hb⟩; have n0_ := Aside0.mk (blk_below (g := gb266) (o := .cells #[.int .i64 a1_0, .int .i64 a1_1] 45 (0, 0)) bk_ hb); have n1_ := Aside0.mk (blk_below (g := gb267) (o := .cells #[.int .i64 a2_0, .int .i64 a2_1] 45 (0, 0)) bk_ hb); have n2_ := Aside0.mk (below_step bw_ hb); clear BK266; clear BK267; clear HB; have BK266 := n0_; have BK267 := n1_; have HB := n2_; clear n0_ n1_ n2_; (try clear hb); (try clear hb2); (try clear hk); (try clear hi)) | (go_at_call 40; (with_reducible refine (impl_AreRunners.calls a4 _ _ l5 t337 _ ?side1 ?side2 A263.out).mono ?_); (case side1 => repeat (first | exact (Kd.C_below HR5.out HB.out) | (with_reducible refine Kd.C_alloc ?_ _) | (with_reducible refine Kd.C_drewN ?_ _) | (with_reducible refine Kd.C_drew ?_))); (case side2 => exact HC5.out); rintro e w271 ⟨rfl, hb⟩; have n0_ := Aside0.mk (blk_below (g := gb266) (o := .cells #[.int .i64 a1_0, .int .i64 a1_1] 45 (0, 0)) bk_ hb); have n1_ := Aside0.mk (blk_below (g := gb267) (o := .cells #[.int .i64 a2_0, .int .i64 a2_1] 45 (0, 0)) bk_ hb); have n2_ := Aside0.mk (below_step bw_ hb); clear BK266; clear BK267; clear HB; have BK266 := n0_; have BK267 := n1_; have HB := n2_; clear n0_ n1_ n2_; (try clear hb); (try clear hb2); (try clear hk); (try clear hi)) | (go_at_call 41; (with_reducible refine (spec_AreRunners.calls kj182 a4 _ _ l5 t339 _ ?side1 ?side2 A264.out).mono ?_); (case side1 => repeat (first | exact (Kd.C_below HR5.out HB.out) | (with_reducible refine Kd.C_alloc ?_ _) | (with_reducible refine Kd.C_drewN ?_ _) | (with_reducible refine Kd.C_drew ?_))); (case side2 => exact HC5.out); rintro e w272 ⟨rfl, hb⟩; have n0_ := Aside0.mk (blk_below (g := gb266) (o := .cells #[.int .i64 a1_0, .int .i64 a1_1] 45 (0, 0)) bk_ hb); have n1_ := Aside0.mk (blk_below (g := gb267) (o := .cells #[.int .i64 a2_0, .int .i64 a2_1] 45 (0, 0)) bk_ hb); have n2_ := Aside0.mk (below_step bw_ hb); clear BK266; clear BK267; clear HB; have BK266 := n0_; have BK267 := n1_; have HB := n2_; clear n0_ n1_ n2_; (try clear hb); (try clear hb2); (try clear hk); (try clear hi)))
                      go_meet
                      case rel => exact ⟨_, (false), (by first | rfl | (simp; done) | (simp [*]; done)), H', ⟨by have := HJ19.out; have := HJ88.out; have := HJ125.out; have := HJ135.out; have := HJ182.out; first | omega | exact Nat.le_refl _⟩, ⟨by (with_reducible repeat (first | refine blk_drewN ?_ _ | refine blk_drew ?_ | refine blk_alloc ?_ _)); exact BK266.out⟩, ⟨by (with_reducible repeat (first | refine blk_drewN ?_ _ | refine blk_drew ?_ | refine blk_alloc ?_ _)); exact BK267.out⟩, ⟨bw_⟩⟩
                  ·
                   rw [if_neg c260] at H
                   have c260b0 : (t333 == t335) = false := beq_eq_false_iff_ne.mpr c260
                   have c260b1 : (t333 != t335) = true := bne_iff_ne.mpr c260
                   exact absurd (H.trans (congrArg some HRT.out)) (by cases kj182 <;> simp [laws_FnRunnersMeetOfAll.j12])
                ·
                 rw [if_neg c258] at H
                 have c258b0 : (t329 == t331) = false := beq_eq_false_iff_ne.mpr c258
                 have c258b1 : (t329 != t331) = true := bne_iff_ne.mpr c258
                 exact absurd (H.trans (congrArg some HRT.out)) (by cases kj182 <;> simp [laws_FnRunnersMeetOfAll.j12])
              case rest => as_aux_lemma =>
               clear HC252
               (try clear c5); (try clear c7); (try clear c88); (try clear c135); (try clear hcz24_0); (try clear hcz24_1); (try clear hcz25_0); (try clear hcz25_1); (try clear hcz27_0); (try clear hcz27_1); (try clear hcz28_0); (try clear hcz28_1); (try clear hcz30_0); (try clear hcz30_1); (try clear hcz31_0); (try clear hcz31_1); (try clear hcz33_0); (try clear hcz33_1); (try clear hcz34_0); (try clear hcz34_1); (try clear hcz36_0); (try clear hcz36_1); (try clear hcz37_0); (try clear hcz37_1); (try clear hcz39_0); (try clear hcz39_1); (try clear hcz40_0); (try clear hcz40_1); (try clear hcz42_0); (try clear hcz42_1); (try clear hcz43_0); (try clear hcz43_1); (try clear hcz45_0); (try clear hcz45_1); (try clear hcz46_0); (try clear hcz46_1); (try clear hcz48_0); (try clear hcz48_1); (try clear hcz49_0); (try clear hcz49_1); (try clear hcz51_0); (try clear hcz51_1); (try clear hcz52_0); (try clear hcz52_1); (try clear hfz24_0); (try clear hfz24_1); (try clear hfz25_0); (try clear hfz25_1); (try clear hfz27_0); (try clear hfz27_1); (try clear hfz28_0); (try clear hfz28_1); (try clear hfz30_0); (try clear hfz30_1); (try clear hfz31_0); (try clear hfz31_1); (try clear hfz33_0); (try clear hfz33_1); (try clear hfz34_0); (try clear hfz34_1); (try clear hfz36_0); (try clear hfz36_1); (try clear hfz37_0); (try clear hfz37_1); (try clear hfz39_0); (try clear hfz39_1); (try clear hfz40_0); (try clear hfz40_1); (try clear hfz42_0); (try clear hfz42_1); (try clear hfz43_0); (try clear hfz43_1); (try clear hfz45_0); (try clear hfz45_1); (try clear hfz46_0); (try clear hfz46_1); (try clear hfz48_0); (try clear hfz48_1); (try clear hfz49_0); (try clear hfz49_1); (try clear hfz51_0); (try clear hfz51_1); (try clear hfz52_0); (try clear hfz52_1)
               obtain ⟨kq, x581_251, rfl, HA, HJ251, BK266, BK267, HB⟩ := hcut
               cases kq with
               | zero => exact absurd HA.out (by simp [laws_FnRunnersMeetOfAll.j12])
               | succ kj251 =>
                have H := HA.out
                clear HA
                simp only [laws_FnRunnersMeetOfAll.j12] at H
                by_cases c273 : x581_251 = true
                ·
                 subst c273
                 rw [if_pos rfl] at H
                 exact absurd ((Option.some.inj H).trans HRT.out) (by decide)
                ·
                 replace c273 := Bool.eq_false_iff.mpr c273
                 subst c273
                 rw [if_neg (show ¬ (false = true) by decide)] at H
                 by_cases c274 : t334 = true
                 ·
                  subst c274
                  rw [if_pos rfl] at H
                  have HC275 := Aside0.mk H
                  clear H
                  go_upto_region 66 with (fail)
                  go_cut [607] from 583 to 607 (fun v607 wc => ∃ (kq : Nat) (x607_274 : Bool), v607 = .bool x607_274 ∧ Aside0 (laws_FnRunnersMeetOfAll.j13 kq a4 l5 t329 t330 t333 x607_274 = some r) ∧ Aside0 (kq ≤ kj251) ∧ Aside0 (wc.heap[gb266]? = some (.cells #[.int .i64 a1_0, .int .i64 a1_1] 45 (0, 0))) ∧ Aside0 (wc.heap[gb267]? = some (.cells #[.int .i64 a2_0, .int .i64 a2_1] 45 (0, 0))) ∧ Aside0 (Below w.heap.size w wc))
                  case first => as_aux_lemma =>
                   have H := HC275.out
                   clear HC275
                   by_cases c276 : t333 < 1
                   ·
                    rw [if_pos c276] at H
                    have c276b0 : decide (t333 < 1) = true := decide_eq_true c276
                    clear c276
                    (first | rw [c276b0] | (simp only [i64_w, i32_w]; rw [c276b0]) | skip)
                    exact absurd (H.trans (congrArg some HRT.out)) (by cases kj251 <;> simp [laws_FnRunnersMeetOfAll.j13])
                   ·
                    rw [if_neg c276] at H
                    have c276b0 : decide (t333 < 1) = false := decide_eq_false c276
                    clear c276
                    (first | rw [c276b0] | (simp only [i64_w, i32_w]; rw [c276b0]) | skip)
                    by_cases c277 : t333 > a4
                    ·
                     rw [if_pos c277] at H
                     have c277b0 : decide (a4 < t333) = true := decide_eq_true c277
                     clear c277
                     exact absurd (H.trans (congrArg some HRT.out)) (by cases kj251 <;> simp [laws_FnRunnersMeetOfAll.j13])
                    ·
                     rw [if_neg c277] at H
                     have c277b0 : decide (a4 < t333) = false := decide_eq_false c277
                     clear c277
                     by_cases c278 : t333 = 0
                     ·
                      rw [if_pos c278] at H
                      exact absurd H (by simp)
                     ·
                      rw [if_neg c278] at H
                      have c278b0 : (t333 == 0) = false := beq_eq_false_iff_ne.mpr c278
                      have c278b1 : (t333 != 0) = true := bne_iff_ne.mpr c278
                      by_cases c279 : (Int.tmod a4 t333) = 0
                      ·
                       rw [if_pos c279] at H
                       have c279b0 : ((Int.tmod a4 t333) == 0) = true := beq_iff_eq.mpr c279
                       have c279b1 : ((Int.tmod a4 t333) != 0) = false := bne_eq_false_iff_eq.mpr c279
                       clear c279
                       by_cases c280 : t330 = true
                       ·
                        subst c280
                        rw [if_pos rfl] at H
                        by_cases c281 : t329 < 0
                        ·
                         rw [if_pos c281] at H
                         have c281b0 : decide (t329 < 0) = true := decide_eq_true c281
                         clear c281
                         exact absurd (H.trans (congrArg some HRT.out)) (by cases kj251 <;> simp [laws_FnRunnersMeetOfAll.j13])
                        ·
                         rw [if_neg c281] at H
                         have c281b0 : decide (t329 < 0) = false := decide_eq_false c281
                         clear c281
                         have H' := Aside0.mk H
                         clear H
                         go_wp2
                         go_meet
                         case rel => exact ⟨_, (decide (t329 ≥ t333)), (by first | rfl | (simp; done) | (simp [*]; done)), H', ⟨by have := HJ19.out; have := HJ88.out; have := HJ125.out; have := HJ135.out; have := HJ182.out; have := HJ251.out; first | omega | exact Nat.le_refl _⟩, ⟨by (with_reducible repeat (first | refine blk_drewN ?_ _ | refine blk_drew ?_ | refine blk_alloc ?_ _)); exact BK266.out⟩, ⟨by (with_reducible repeat (first | refine blk_drewN ?_ _ | refine blk_drew ?_ | refine blk_alloc ?_ _)); exact BK267.out⟩, ⟨bw_⟩⟩
                       ·
                        replace c280 := Bool.eq_false_iff.mpr c280
                        subst c280
                        rw [if_neg (show ¬ (false = true) by decide)] at H
                        have H' := Aside0.mk H
                        clear H
                        go_wp2
                        go_meet
                        case rel => exact ⟨_, (false), (by first | rfl | (simp; done) | (simp [*]; done)), H', ⟨by have := HJ19.out; have := HJ88.out; have := HJ125.out; have := HJ135.out; have := HJ182.out; have := HJ251.out; first | omega | exact Nat.le_refl _⟩, ⟨by (with_reducible repeat (first | refine blk_drewN ?_ _ | refine blk_drew ?_ | refine blk_alloc ?_ _)); exact BK266.out⟩, ⟨by (with_reducible repeat (first | refine blk_drewN ?_ _ | refine blk_drew ?_ | refine blk_alloc ?_ _)); exact BK267.out⟩, ⟨bw_⟩⟩
                      ·
                       rw [if_neg c279] at H
                       have c279b0 : ((Int.tmod a4 t333) == 0) = false := beq_eq_false_iff_ne.mpr c279
                       have c279b1 : ((Int.tmod a4 t333) != 0) = true := bne_iff_ne.mpr c279
                       exact absurd (H.trans (congrArg some HRT.out)) (by cases kj251 <;> simp [laws_FnRunnersMeetOfAll.j13])
                  case rest => as_aux_lemma =>
                   clear HC275
                   (try clear c5); (try clear c7); (try clear c88); (try clear c135); (try clear c273); (try clear c274); (try clear hcz24_0); (try clear hcz24_1); (try clear hcz25_0); (try clear hcz25_1); (try clear hcz27_0); (try clear hcz27_1); (try clear hcz28_0); (try clear hcz28_1); (try clear hcz30_0); (try clear hcz30_1); (try clear hcz31_0); (try clear hcz31_1); (try clear hcz33_0); (try clear hcz33_1); (try clear hcz34_0); (try clear hcz34_1); (try clear hcz36_0); (try clear hcz36_1); (try clear hcz37_0); (try clear hcz37_1); (try clear hcz39_0); (try clear hcz39_1); (try clear hcz40_0); (try clear hcz40_1); (try clear hcz42_0); (try clear hcz42_1); (try clear hcz43_0); (try clear hcz43_1); (try clear hcz45_0); (try clear hcz45_1); (try clear hcz46_0); (try clear hcz46_1); (try clear hcz48_0); (try clear hcz48_1); (try clear hcz49_0); (try clear hcz49_1); (try clear hcz51_0); (try clear hcz51_1); (try clear hcz52_0); (try clear hcz52_1); (try clear hfz24_0); (try clear hfz24_1); (try clear hfz25_0); (try clear hfz25_1); (try clear hfz27_0); (try clear hfz27_1); (try clear hfz28_0); (try clear hfz28_1); (try clear hfz30_0); (try clear hfz30_1); (try clear hfz31_0); (try clear hfz31_1); (try clear hfz33_0); (try clear hfz33_1); (try clear hfz34_0); (try clear hfz34_1); (try clear hfz36_0); (try clear hfz36_1); (try clear hfz37_0); (try clear hfz37_1); (try clear hfz39_0); (try clear hfz39_1); (try clear hfz40_0); (try clear hfz40_1); (try clear hfz42_0); (try clear hfz42_1); (try clear hfz43_0); (try clear hfz43_1); (try clear hfz45_0); (try clear hfz45_1); (try clear hfz46_0); (try clear hfz46_1); (try clear hfz48_0); (try clear hfz48_1); (try clear hfz49_0); (try clear hfz49_1); (try clear hfz51_0); (try clear hfz51_1); (try clear hfz52_0); (try clear hfz52_1)
                   obtain ⟨kq, x607_274, rfl, HA, HJ274, BK266, BK267, HB⟩ := hcut
                   cases kq with
                   | zero => exact absurd HA.out (by simp [laws_FnRunnersMeetOfAll.j13])
                   | succ kj274 =>
                    have H := HA.out
                    clear HA
                    simp only [laws_FnRunnersMeetOfAll.j13] at H
                    by_cases c282 : x607_274 = true
                    ·
                     subst c282
                     rw [if_pos rfl] at H
                     exact absurd ((Option.some.inj H).trans HRT.out) (by decide)
                    ·
                     replace c282 := Bool.eq_false_iff.mpr c282
                     subst c282
                     rw [if_neg (show ¬ (false = true) by decide)] at H
                     have H' := Aside0.mk H
                     clear H
                     go_wp2
                     go_loopg [64, 610] kj274 (fun kq v64 v610 w' => ∃ (x64_8 : Int) (x610_8 : Int), v64 = .int .i64 x64_8 ∧ v610 = .int .i64 x610_8 ∧ Aside0 (laws_FnRunnersMeetOfAll.l3 kq a4 l5 t329 t330 t333 x64_8 l5 (l5.length : Int) x610_8 = some r) ∧ Aside0 (kq ≤ kj274) ∧ Aside0 (w'.heap[gb266]? = some (.cells #[.int .i64 a1_0, .int .i64 a1_1] 45 (0, 0))) ∧ Aside0 (w'.heap[gb267]? = some (.cells #[.int .i64 a2_0, .int .i64 a2_1] 45 (0, 0))) ∧ Aside0 (Below w.heap.size w w'))
                     case atStart => exact ⟨((-1)), (0), (by first | rfl | (simp; done) | (simp [*]; done)), (by first | rfl | (simp; done) | (simp [*]; done)), H', ⟨Nat.le_refl _⟩, ⟨by (with_reducible repeat (first | refine blk_drewN ?_ _ | refine blk_drew ?_ | refine blk_alloc ?_ _)); exact BK266.out⟩, ⟨by (with_reducible repeat (first | refine blk_drewN ?_ _ | refine blk_drew ?_ | refine blk_alloc ?_ _)); exact BK267.out⟩, ⟨bw_⟩⟩
                     case round => as_aux_lemma =>
                      clear H'
                      (try clear c5); (try clear c7); (try clear c88); (try clear c135); (try clear c273); (try clear c274); (try clear c282); (try clear hcz24_0); (try clear hcz24_1); (try clear hcz25_0); (try clear hcz25_1); (try clear hcz27_0); (try clear hcz27_1); (try clear hcz28_0); (try clear hcz28_1); (try clear hcz30_0); (try clear hcz30_1); (try clear hcz31_0); (try clear hcz31_1); (try clear hcz33_0); (try clear hcz33_1); (try clear hcz34_0); (try clear hcz34_1); (try clear hcz36_0); (try clear hcz36_1); (try clear hcz37_0); (try clear hcz37_1); (try clear hcz39_0); (try clear hcz39_1); (try clear hcz40_0); (try clear hcz40_1); (try clear hcz42_0); (try clear hcz42_1); (try clear hcz43_0); (try clear hcz43_1); (try clear hcz45_0); (try clear hcz45_1); (try clear hcz46_0); (try clear hcz46_1); (try clear hcz48_0); (try clear hcz48_1); (try clear hcz49_0); (try clear hcz49_1); (try clear hcz51_0); (try clear hcz51_1); (try clear hcz52_0); (try clear hcz52_1); (try clear hfz24_0); (try clear hfz24_1); (try clear hfz25_0); (try clear hfz25_1); (try clear hfz27_0); (try clear hfz27_1); (try clear hfz28_0); (try clear hfz28_1); (try clear hfz30_0); (try clear hfz30_1); (try clear hfz31_0); (try clear hfz31_1); (try clear hfz33_0); (try clear hfz33_1); (try clear hfz34_0); (try clear hfz34_1); (try clear hfz36_0); (try clear hfz36_1); (try clear hfz37_0); (try clear hfz37_1); (try clear hfz39_0); (try clear hfz39_1); (try clear hfz40_0); (try clear hfz40_1); (try clear hfz42_0); (try clear hfz42_1); (try clear hfz43_0); (try clear hfz43_1); (try clear hfz45_0); (try clear hfz45_1); (try clear hfz46_0); (try clear hfz46_1); (try clear hfz48_0); (try clear hfz48_1); (try clear hfz49_0); (try clear hfz49_1); (try clear hfz51_0); (try clear hfz51_1); (try clear hfz52_0); (try clear hfz52_1)
                      obtain ⟨x64_8, x610_8, rfl, rfl, HA, HK8, BK266, BK267, HB⟩ := hrel
                      cases gk with
                      | zero => exact absurd HA.out (by simp [laws_FnRunnersMeetOfAll.l3])
                      | succ k8 =>
                       have H := HA.out
                       clear HA
                       simp only [laws_FnRunnersMeetOfAll.l3] at H
                       by_cases c283 : x610_8 < (l5.length : Int)
                       ·
                        rw [if_pos c283] at H
                        have c283b0 : decide (x610_8 < (l5.length : Int)) = true := decide_eq_true c283
                        clear c283
                        by_cases c284 : 0 ≤ x610_8
                        ·
                         rw [if_pos c284] at H
                         have c284b0 : decide (0 ≤ x610_8) = true := decide_eq_true c284
                         clear c284
                         by_cases c285 : x610_8 < (l5.length : Int)
                         ·
                          rw [if_pos c285] at H
                          have c285b0 : decide (x610_8 < (l5.length : Int)) = true := decide_eq_true c285
                          clear c285
                          replace H := Option.bind_eq_some_iff.mp H
                          obtain ⟨⟨t342, t343⟩, A2860, H⟩ := H
                          (try dsimp only at H)
                          have A286 := Aside0.mk A2860
                          clear A2860
                          have HC287 := Aside0.mk H
                          clear H
                          have p340 : 0 ≤ (x610_8 : Int) := of_decide_eq_true (by first | (with_reducible assumption) | assumption)
                          have q340 : x610_8 < (l5.length : Int) := of_decide_eq_true (by first | (with_reducible assumption) | assumption)
                          obtain ⟨ad340, e340, hx340_0, hx340_1⟩ := at_T45 HR5.out x610_8 p340 q340
                          cases e340
                          replace hx340_0 := (HB.out.cell (World.block_lt_of_cell? w _ hx340_0)).trans hx340_0
                          replace hx340_1 := (HB.out.cell (World.block_lt_of_cell? w _ hx340_1)).trans hx340_1
                          replace p340 := eq_true p340
                          replace q340 := eq_true q340
                          go_upto_region 73 with (first | ((with_reducible refine gate_dst (N := 66) rfl ?_); (try (refine gate_guard (by rfl) ?_; dsimp only)); refine box_event ?hg (N := 66) ?hd (cs := #[.int .i64 0, .int .i64 0]) (t := 45) ?hr ?_; (case hd => rfl); (case hg => rfl); (case hr => first | (go_simp; done) | (go_simp; rfl)); intro gb341 hg w288 hbox hb; have n0_ := Aside0.mk (blk_below (g := gb266) (o := .cells #[.int .i64 a1_0, .int .i64 a1_1] 45 (0, 0)) bk_ hb); have n1_ := Aside0.mk (blk_below (g := gb267) (o := .cells #[.int .i64 a2_0, .int .i64 a2_1] 45 (0, 0)) bk_ hb); have n2_ := Aside0.mk (below_step bw_ hb); have n3_ := Aside0.mk (hbox); have n4_ := Aside0.mk ((by rw [hg]; exact (below_size bw_) : w.heap.size ≤ gb341)); have n5_ := Aside0.mk ((by rw [hg]; exact (below_size bw_) : w.heap.size ≤ gb341)); have n6_ := Aside0.mk ((by rw [hg]; exact Nat.ne_of_lt (blk_lt (g := gb266) (o := .cells #[.int .i64 a1_0, .int .i64 a1_1] 45 (0, 0)) bk_) : gb266 ≠ gb341)); have n7_ := Aside0.mk ((by rw [hg]; exact Nat.ne_of_gt (blk_lt (g := gb266) (o := .cells #[.int .i64 a1_0, .int .i64 a1_1] 45 (0, 0)) bk_) : gb341 ≠ gb266)); have n8_ := Aside0.mk ((by rw [hg]; exact Nat.ne_of_lt (blk_lt (g := gb267) (o := .cells #[.int .i64 a2_0, .int .i64 a2_1] 45 (0, 0)) bk_) : gb267 ≠ gb341)); have n9_ := Aside0.mk ((by rw [hg]; exact Nat.ne_of_gt (blk_lt (g := gb267) (o := .cells #[.int .i64 a2_0, .int .i64 a2_1] 45 (0, 0)) bk_) : gb341 ≠ gb267)); clear BK266; clear BK267; clear HB; have BK266 := n0_; have BK267 := n1_; have HB := n2_; have BK341 := n3_; have GW341 := n4_; have GE341 := n5_; have NB266_341 := n6_; have NB341_266 := n7_; have NB267_341 := n8_; have NB341_267 := n9_; clear n0_ n1_ n2_ n3_ n4_ n5_ n6_ n7_ n8_ n9_; clear hb hbox hg; have hnb289 := NB341_266.out; have hnc289 := NB266_341.out; have hnb290 := NB341_267.out; have hnc290 := NB267_341.out; have hcz291_0 : w288.cell? ⟨gb341, 0, none⟩ = some (.int .i64 0) := (blk_cell BK341.out 0).trans rfl; have hcz291_1 : w288.cell? ⟨gb341, 1, none⟩ = some (.int .i64 0) := (blk_cell BK341.out 1).trans rfl; have hfz291_0 := blk_frozen BK341.out 0; have hfz291_1 := blk_frozen BK341.out 1) | ((with_reducible refine gate_callee (f := 34) rfl ?_); refine goesL_ (some 618) rfl rfl Try.func34 (by kernel_rfl) rfl #[.int .i64 a4, .agg #[.int .i64 ((rd_T45 l5 x610_8).f0), .int .i64 ((rd_T45 l5 x610_8).f1)], .int .i64 t333] rfl (by (try simp only [List.map_toArray, List.map_cons, List.map_nil]); first | done | rfl | (simp only [List.length_drop, List.length_take]; rfl)) ?_; (with_reducible refine (impl_PlaceOnTrack.calls a4 ((rd_T45 l5 x610_8).f0) ((rd_T45 l5 x610_8).f1) t333 t342 t343 _ A286.out).mono ?_); rintro e w292 ⟨rfl, hb⟩; refine ⟨_, rfl, ?_⟩; have n0_ := Aside0.mk (blk_below (g := gb266) (o := .cells #[.int .i64 a1_0, .int .i64 a1_1] 45 (0, 0)) (by (with_reducible repeat (first | refine blk_drewN ?_ _ | refine blk_drew ?_ | refine blk_alloc ?_ _)); refine blk_far ?_ NB266_341.out _; (with_reducible repeat (first | refine blk_drewN ?_ _ | refine blk_drew ?_ | refine blk_alloc ?_ _)); refine blk_far ?_ NB266_341.out _; (with_reducible repeat (first | refine blk_drewN ?_ _ | refine blk_drew ?_ | refine blk_alloc ?_ _)); exact BK266.out) hb); have n1_ := Aside0.mk (blk_below (g := gb267) (o := .cells #[.int .i64 a2_0, .int .i64 a2_1] 45 (0, 0)) (by (with_reducible repeat (first | refine blk_drewN ?_ _ | refine blk_drew ?_ | refine blk_alloc ?_ _)); refine blk_far ?_ NB267_341.out _; (with_reducible repeat (first | refine blk_drewN ?_ _ | refine blk_drew ?_ | refine blk_alloc ?_ _)); refine blk_far ?_ NB267_341.out _; (with_reducible repeat (first | refine blk_drewN ?_ _ | refine blk_drew ?_ | refine blk_alloc ?_ _)); exact BK267.out) hb); have n2_ := Aside0.mk (blk_below (g := gb341) (o := .cells #[.int .i64 ((rd_T45 l5 x610_8).f0), .int .i64 ((rd_T45 l5 x610_8).f1)] 45 (0, 0)) (by (with_reducible repeat (first | refine blk_drewN ?_ _ | refine blk_drew ?_ | refine blk_alloc ?_ _)); refine blk_put (cs := #[.int .i64 ((rd_T45 l5 x610_8).f0), .int .i64 0]) ?_ 1 _ rfl; (with_reducible repeat (first | refine blk_drewN ?_ _ | refine blk_drew ?_ | refine blk_alloc ?_ _)); refine blk_put (cs := #[.int .i64 0, .int .i64 0]) ?_ 0 _ rfl; (with_reducible repeat (first | refine blk_drewN ?_ _ | refine blk_drew ?_ | refine blk_alloc ?_ _)); exact BK341.out) hb); have n3_ := Aside0.mk (below_step bw_ hb); clear BK266; clear BK267; clear BK341; clear HB; have BK266 := n0_; have BK267 := n1_; have BK341 := n2_; have HB := n3_; clear n0_ n1_ n2_ n3_; (try clear hb); (try clear hb2); (try clear hk); (try clear hi)))
                          (try simp only [Act.put, List.setIfInBounds_toArray, List.set_cons_zero, List.set_cons_succ])
                          go_cut [628] from 621 to 628 (fun v628 wc => ∃ (kq : Nat) (x628_286 : Bool), v628 = .bool x628_286 ∧ Aside0 (laws_FnRunnersMeetOfAll.j15 kq a4 l5 t329 t330 t333 x64_8 l5 (l5.length : Int) x610_8 x628_286 ((rd_T45 l5 x610_8).f0) ((rd_T45 l5 x610_8).f1) = some r) ∧ Aside0 (kq ≤ k8) ∧ Aside0 (wc.heap[gb266]? = some (.cells #[.int .i64 a1_0, .int .i64 a1_1] 45 (0, 0))) ∧ Aside0 (wc.heap[gb267]? = some (.cells #[.int .i64 a2_0, .int .i64 a2_1] 45 (0, 0))) ∧ Aside0 (wc.heap[gb341]? = some (.cells #[.int .i64 ((rd_T45 l5 x610_8).f0), .int .i64 ((rd_T45 l5 x610_8).f1)] 45 (0, 0))) ∧ Aside0 (Below w.heap.size w wc))
                          case first => as_aux_lemma =>
                           have H := HC287.out
                           clear HC287
                           by_cases c293 : t343 = true
                           ·
                            subst c293
                            rw [if_pos rfl] at H
                            have H' := Aside0.mk H
                            clear H
                            have hnb294 := NB341_266.out
                            have hnc294 := NB266_341.out
                            have hnb295 := NB341_267.out
                            have hnc295 := NB267_341.out
                            have hcz296_0 : w292.cell? ⟨gb341, 0, none⟩ = some (.int .i64 ((rd_T45 l5 x610_8).f0)) := (blk_cell BK341.out 0).trans rfl
                            have hcz296_1 : w292.cell? ⟨gb341, 1, none⟩ = some (.int .i64 ((rd_T45 l5 x610_8).f1)) := (blk_cell BK341.out 1).trans rfl
                            have hfz296_0 := blk_frozen BK341.out 0
                            have hfz296_1 := blk_frozen BK341.out 1
                            go_wp2
                            go_meet
                            case rel => exact ⟨_, ((t342 != ((rd_T45 l5 x610_8).f0))), (by first | rfl | (simp; done) | (simp [*]; done)), H', ⟨by have := HJ19.out; have := HJ88.out; have := HJ125.out; have := HJ135.out; have := HJ182.out; have := HJ251.out; have := HJ274.out; have := HK8.out; first | omega | exact Nat.le_refl _⟩, ⟨by (with_reducible repeat (first | refine blk_drewN ?_ _ | refine blk_drew ?_ | refine blk_alloc ?_ _)); exact BK266.out⟩, ⟨by (with_reducible repeat (first | refine blk_drewN ?_ _ | refine blk_drew ?_ | refine blk_alloc ?_ _)); exact BK267.out⟩, ⟨by (with_reducible repeat (first | refine blk_drewN ?_ _ | refine blk_drew ?_ | refine blk_alloc ?_ _)); exact BK341.out⟩, ⟨bw_⟩⟩
                           ·
                            replace c293 := Bool.eq_false_iff.mpr c293
                            subst c293
                            rw [if_neg (show ¬ (false = true) by decide)] at H
                            exact absurd (H.trans (congrArg some HRT.out)) (by cases k8 <;> simp [laws_FnRunnersMeetOfAll.j15])
                          case rest => as_aux_lemma =>
                           clear HC287
                           (try clear c5); (try clear c7); (try clear c88); (try clear c135); (try clear c273); (try clear c274); (try clear c282); (try clear c283); (try clear c283b0); (try clear c284); (try clear c284b0); (try clear c285); (try clear c285b0); (try clear hcz24_0); (try clear hcz24_1); (try clear hcz25_0); (try clear hcz25_1); (try clear hcz27_0); (try clear hcz27_1); (try clear hcz28_0); (try clear hcz28_1); (try clear hcz291_0); (try clear hcz291_1); (try clear hcz30_0); (try clear hcz30_1); (try clear hcz31_0); (try clear hcz31_1); (try clear hcz33_0); (try clear hcz33_1); (try clear hcz34_0); (try clear hcz34_1); (try clear hcz36_0); (try clear hcz36_1); (try clear hcz37_0); (try clear hcz37_1); (try clear hcz39_0); (try clear hcz39_1); (try clear hcz40_0); (try clear hcz40_1); (try clear hcz42_0); (try clear hcz42_1); (try clear hcz43_0); (try clear hcz43_1); (try clear hcz45_0); (try clear hcz45_1); (try clear hcz46_0); (try clear hcz46_1); (try clear hcz48_0); (try clear hcz48_1); (try clear hcz49_0); (try clear hcz49_1); (try clear hcz51_0); (try clear hcz51_1); (try clear hcz52_0); (try clear hcz52_1); (try clear hfz24_0); (try clear hfz24_1); (try clear hfz25_0); (try clear hfz25_1); (try clear hfz27_0); (try clear hfz27_1); (try clear hfz28_0); (try clear hfz28_1); (try clear hfz291_0); (try clear hfz291_1); (try clear hfz30_0); (try clear hfz30_1); (try clear hfz31_0); (try clear hfz31_1); (try clear hfz33_0); (try clear hfz33_1); (try clear hfz34_0); (try clear hfz34_1); (try clear hfz36_0); (try clear hfz36_1); (try clear hfz37_0); (try clear hfz37_1); (try clear hfz39_0); (try clear hfz39_1); (try clear hfz40_0); (try clear hfz40_1); (try clear hfz42_0); (try clear hfz42_1); (try clear hfz43_0); (try clear hfz43_1); (try clear hfz45_0); (try clear hfz45_1); (try clear hfz46_0); (try clear hfz46_1); (try clear hfz48_0); (try clear hfz48_1); (try clear hfz49_0); (try clear hfz49_1); (try clear hfz51_0); (try clear hfz51_1); (try clear hfz52_0); (try clear hfz52_1); (try clear hx340_0); (try clear hx340_1); (try clear p340); (try clear q340)
                           obtain ⟨kq, x628_286, rfl, HA, HJ286, BK266, BK267, BK341, HB⟩ := hcut
                           cases kq with
                           | zero => exact absurd HA.out (by simp [laws_FnRunnersMeetOfAll.j15])
                           | succ kj286 =>
                            have H := HA.out
                            clear HA
                            simp only [laws_FnRunnersMeetOfAll.j15] at H
                            by_cases c297 : x628_286 = true
                            ·
                             subst c297
                             rw [if_pos rfl] at H
                             exact absurd ((Option.some.inj H).trans HRT.out) (by decide)
                            ·
                             replace c297 := Bool.eq_false_iff.mpr c297
                             subst c297
                             rw [if_neg (show ¬ (false = true) by decide)] at H
                             by_cases c298 : t330 = true
                             ·
                              subst c298
                              rw [if_pos rfl] at H
                              replace H := Option.bind_eq_some_iff.mp H
                              obtain ⟨⟨t344, t345⟩, A2990, H⟩ := H
                              (try dsimp only at H)
                              have A299 := Aside0.mk A2990
                              clear A2990
                              by_cases c300 : t345 = true
                              ·
                               subst c300
                               rw [if_pos rfl] at H
                               by_cases c301 : x64_8 ≥ 0
                               ·
                                rw [if_pos c301] at H
                                have c301b0 : decide (0 ≤ x64_8) = true := decide_eq_true c301
                                clear c301
                                by_cases c302 : t344 = x64_8
                                ·
                                 rw [if_pos c302] at H
                                 have c302b0 : (t344 == x64_8) = true := beq_iff_eq.mpr c302
                                 have c302b1 : (t344 != x64_8) = false := bne_eq_false_iff_eq.mpr c302
                                 clear c302
                                 have H' := Aside0.mk H
                                 clear H
                                 have hnb303 := NB341_266.out
                                 have hnc303 := NB266_341.out
                                 have hnb304 := NB341_267.out
                                 have hnc304 := NB267_341.out
                                 have hcz305_0 : wc.cell? ⟨gb341, 0, none⟩ = some (.int .i64 ((rd_T45 l5 x610_8).f0)) := (blk_cell BK341.out 0).trans rfl
                                 have hcz305_1 : wc.cell? ⟨gb341, 1, none⟩ = some (.int .i64 ((rd_T45 l5 x610_8).f1)) := (blk_cell BK341.out 1).trans rfl
                                 have hfz305_0 := blk_frozen BK341.out 0
                                 have hfz305_1 := blk_frozen BK341.out 1
                                 go_wp2_with (first | ((with_reducible refine gate_callee (f := 34) rfl ?_); refine goesL_ (some 634) rfl rfl Try.func34 (by kernel_rfl) rfl #[.int .i64 a4, .agg #[.int .i64 ((rd_T45 l5 x610_8).f0), .int .i64 ((rd_T45 l5 x610_8).f1)], .int .i64 t329] rfl (by (try simp only [List.map_toArray, List.map_cons, List.map_nil]); first | done | rfl | (simp only [List.length_drop, List.length_take]; rfl)) ?_; (with_reducible refine (impl_PlaceOnTrack.calls a4 ((rd_T45 l5 x610_8).f0) ((rd_T45 l5 x610_8).f1) t329 t344 true _ A299.out).mono ?_); rintro e w306 ⟨rfl, hb⟩; refine ⟨_, rfl, ?_⟩; have n0_ := Aside0.mk (blk_below (g := gb266) (o := .cells #[.int .i64 a1_0, .int .i64 a1_1] 45 (0, 0)) bk_ hb); have n1_ := Aside0.mk (blk_below (g := gb267) (o := .cells #[.int .i64 a2_0, .int .i64 a2_1] 45 (0, 0)) bk_ hb); have n2_ := Aside0.mk (blk_below (g := gb341) (o := .cells #[.int .i64 ((rd_T45 l5 x610_8).f0), .int .i64 ((rd_T45 l5 x610_8).f1)] 45 (0, 0)) bk_ hb); have n3_ := Aside0.mk (below_step bw_ hb); clear BK266; clear BK267; clear BK341; clear HB; have BK266 := n0_; have BK267 := n1_; have BK341 := n2_; have HB := n3_; clear n0_ n1_ n2_ n3_; (try clear hb); (try clear hb2); (try clear hk); (try clear hi)))
                                 go_roundg kj286
                                 case measure => have := HJ19.out; have := HJ88.out; have := HJ125.out; have := HJ135.out; have := HJ182.out; have := HJ251.out; have := HJ274.out; have := HK8.out; have := HJ286.out; omega
                                 case rel => exact ⟨(t344), (wrap64 (x610_8 + 1)), (by first | rfl | (simp; done) | (simp [*]; done)), (by first | rfl | (simp; done) | (simp [*]; done)), H', ⟨by have := HJ19.out; have := HJ88.out; have := HJ125.out; have := HJ135.out; have := HJ182.out; have := HJ251.out; have := HJ274.out; have := HK8.out; have := HJ286.out; omega⟩, ⟨by (with_reducible repeat (first | refine blk_drewN ?_ _ | refine blk_drew ?_ | refine blk_alloc ?_ _)); exact BK266.out⟩, ⟨by (with_reducible repeat (first | refine blk_drewN ?_ _ | refine blk_drew ?_ | refine blk_alloc ?_ _)); exact BK267.out⟩, ⟨bw_⟩⟩
                                ·
                                 rw [if_neg c302] at H
                                 have c302b0 : (t344 == x64_8) = false := beq_eq_false_iff_ne.mpr c302
                                 have c302b1 : (t344 != x64_8) = true := bne_iff_ne.mpr c302
                                 exact absurd ((Option.some.inj H).trans HRT.out) (by decide)
                               ·
                                rw [if_neg c301] at H
                                have c301b0 : decide (0 ≤ x64_8) = false := decide_eq_false c301
                                clear c301
                                have H' := Aside0.mk H
                                clear H
                                have hnb307 := NB341_266.out
                                have hnc307 := NB266_341.out
                                have hnb308 := NB341_267.out
                                have hnc308 := NB267_341.out
                                have hcz309_0 : wc.cell? ⟨gb341, 0, none⟩ = some (.int .i64 ((rd_T45 l5 x610_8).f0)) := (blk_cell BK341.out 0).trans rfl
                                have hcz309_1 : wc.cell? ⟨gb341, 1, none⟩ = some (.int .i64 ((rd_T45 l5 x610_8).f1)) := (blk_cell BK341.out 1).trans rfl
                                have hfz309_0 := blk_frozen BK341.out 0
                                have hfz309_1 := blk_frozen BK341.out 1
                                go_wp2_with (first | ((with_reducible refine gate_callee (f := 34) rfl ?_); refine goesL_ (some 634) rfl rfl Try.func34 (by kernel_rfl) rfl #[.int .i64 a4, .agg #[.int .i64 ((rd_T45 l5 x610_8).f0), .int .i64 ((rd_T45 l5 x610_8).f1)], .int .i64 t329] rfl (by (try simp only [List.map_toArray, List.map_cons, List.map_nil]); first | done | rfl | (simp only [List.length_drop, List.length_take]; rfl)) ?_; (with_reducible refine (impl_PlaceOnTrack.calls a4 ((rd_T45 l5 x610_8).f0) ((rd_T45 l5 x610_8).f1) t329 t344 true _ A299.out).mono ?_); rintro e w310 ⟨rfl, hb⟩; refine ⟨_, rfl, ?_⟩; have n0_ := Aside0.mk (blk_below (g := gb266) (o := .cells #[.int .i64 a1_0, .int .i64 a1_1] 45 (0, 0)) bk_ hb); have n1_ := Aside0.mk (blk_below (g := gb267) (o := .cells #[.int .i64 a2_0, .int .i64 a2_1] 45 (0, 0)) bk_ hb); have n2_ := Aside0.mk (blk_below (g := gb341) (o := .cells #[.int .i64 ((rd_T45 l5 x610_8).f0), .int .i64 ((rd_T45 l5 x610_8).f1)] 45 (0, 0)) bk_ hb); have n3_ := Aside0.mk (below_step bw_ hb); clear BK266; clear BK267; clear BK341; clear HB; have BK266 := n0_; have BK267 := n1_; have BK341 := n2_; have HB := n3_; clear n0_ n1_ n2_ n3_; (try clear hb); (try clear hb2); (try clear hk); (try clear hi)))
                                go_roundg kj286
                                case measure => have := HJ19.out; have := HJ88.out; have := HJ125.out; have := HJ135.out; have := HJ182.out; have := HJ251.out; have := HJ274.out; have := HK8.out; have := HJ286.out; omega
                                case rel => exact ⟨(t344), (wrap64 (x610_8 + 1)), (by first | rfl | (simp; done) | (simp [*]; done)), (by first | rfl | (simp; done) | (simp [*]; done)), H', ⟨by have := HJ19.out; have := HJ88.out; have := HJ125.out; have := HJ135.out; have := HJ182.out; have := HJ251.out; have := HJ274.out; have := HK8.out; have := HJ286.out; omega⟩, ⟨by (with_reducible repeat (first | refine blk_drewN ?_ _ | refine blk_drew ?_ | refine blk_alloc ?_ _)); exact BK266.out⟩, ⟨by (with_reducible repeat (first | refine blk_drewN ?_ _ | refine blk_drew ?_ | refine blk_alloc ?_ _)); exact BK267.out⟩, ⟨bw_⟩⟩
                              ·
                               replace c300 := Bool.eq_false_iff.mpr c300
                               subst c300
                               rw [if_neg (show ¬ (false = true) by decide)] at H
                               exact absurd ((Option.some.inj H).trans HRT.out) (by decide)
                             ·
                              replace c298 := Bool.eq_false_iff.mpr c298
                              subst c298
                              rw [if_neg (show ¬ (false = true) by decide)] at H
                              have H' := Aside0.mk H
                              clear H
                              go_wp2
                              go_roundg kj286
                              case measure => have := HJ19.out; have := HJ88.out; have := HJ125.out; have := HJ135.out; have := HJ182.out; have := HJ251.out; have := HJ274.out; have := HK8.out; have := HJ286.out; omega
                              case rel => exact ⟨(x64_8), (wrap64 (x610_8 + 1)), (by first | rfl | (simp; done) | (simp [*]; done)), (by first | rfl | (simp; done) | (simp [*]; done)), H', ⟨by have := HJ19.out; have := HJ88.out; have := HJ125.out; have := HJ135.out; have := HJ182.out; have := HJ251.out; have := HJ274.out; have := HK8.out; have := HJ286.out; omega⟩, ⟨by (with_reducible repeat (first | refine blk_drewN ?_ _ | refine blk_drew ?_ | refine blk_alloc ?_ _)); exact BK266.out⟩, ⟨by (with_reducible repeat (first | refine blk_drewN ?_ _ | refine blk_drew ?_ | refine blk_alloc ?_ _)); exact BK267.out⟩, ⟨bw_⟩⟩
                         ·
                          rw [if_neg c285] at H
                          exact absurd H (by simp)
                        ·
                         rw [if_neg c284] at H
                         exact absurd H (by simp)
                       ·
                        rw [if_neg c283] at H
                        have c283b0 : decide (x610_8 < (l5.length : Int)) = false := decide_eq_false c283
                        clear c283
                        have H' := Aside0.mk H
                        clear H
                        go_wp2
                        go_loopg [71] k8 (fun kq v71 w' => ∃ (x71_9 : Int), v71 = .int .i64 x71_9 ∧ Aside0 (laws_FnRunnersMeetOfAll.l4 kq a4 l5 t329 t330 x71_9 = some r) ∧ Aside0 (kq ≤ k8) ∧ Aside0 (w'.heap[gb266]? = some (.cells #[.int .i64 a1_0, .int .i64 a1_1] 45 (0, 0))) ∧ Aside0 (w'.heap[gb267]? = some (.cells #[.int .i64 a2_0, .int .i64 a2_1] 45 (0, 0))) ∧ Aside0 (Below w.heap.size w w'))
                        case atStart => exact ⟨(0), (by first | rfl | (simp; done) | (simp [*]; done)), H', ⟨Nat.le_refl _⟩, ⟨by (with_reducible repeat (first | refine blk_drewN ?_ _ | refine blk_drew ?_ | refine blk_alloc ?_ _)); exact BK266.out⟩, ⟨by (with_reducible repeat (first | refine blk_drewN ?_ _ | refine blk_drew ?_ | refine blk_alloc ?_ _)); exact BK267.out⟩, ⟨bw_⟩⟩
                        case round => as_aux_lemma =>
                         clear H'
                         (try clear c5); (try clear c7); (try clear c88); (try clear c135); (try clear c273); (try clear c274); (try clear c282); (try clear c283); (try clear c283b0); (try clear hcz24_0); (try clear hcz24_1); (try clear hcz25_0); (try clear hcz25_1); (try clear hcz27_0); (try clear hcz27_1); (try clear hcz28_0); (try clear hcz28_1); (try clear hcz30_0); (try clear hcz30_1); (try clear hcz31_0); (try clear hcz31_1); (try clear hcz33_0); (try clear hcz33_1); (try clear hcz34_0); (try clear hcz34_1); (try clear hcz36_0); (try clear hcz36_1); (try clear hcz37_0); (try clear hcz37_1); (try clear hcz39_0); (try clear hcz39_1); (try clear hcz40_0); (try clear hcz40_1); (try clear hcz42_0); (try clear hcz42_1); (try clear hcz43_0); (try clear hcz43_1); (try clear hcz45_0); (try clear hcz45_1); (try clear hcz46_0); (try clear hcz46_1); (try clear hcz48_0); (try clear hcz48_1); (try clear hcz49_0); (try clear hcz49_1); (try clear hcz51_0); (try clear hcz51_1); (try clear hcz52_0); (try clear hcz52_1); (try clear hfz24_0); (try clear hfz24_1); (try clear hfz25_0); (try clear hfz25_1); (try clear hfz27_0); (try clear hfz27_1); (try clear hfz28_0); (try clear hfz28_1); (try clear hfz30_0); (try clear hfz30_1); (try clear hfz31_0); (try clear hfz31_1); (try clear hfz33_0); (try clear hfz33_1); (try clear hfz34_0); (try clear hfz34_1); (try clear hfz36_0); (try clear hfz36_1); (try clear hfz37_0); (try clear hfz37_1); (try clear hfz39_0); (try clear hfz39_1); (try clear hfz40_0); (try clear hfz40_1); (try clear hfz42_0); (try clear hfz42_1); (try clear hfz43_0); (try clear hfz43_1); (try clear hfz45_0); (try clear hfz45_1); (try clear hfz46_0); (try clear hfz46_1); (try clear hfz48_0); (try clear hfz48_1); (try clear hfz49_0); (try clear hfz49_1); (try clear hfz51_0); (try clear hfz51_1); (try clear hfz52_0); (try clear hfz52_1)
                         obtain ⟨x71_9, rfl, HA, HK9, BK266, BK267, HB⟩ := hrel
                         cases gk with
                         | zero => exact absurd HA.out (by simp [laws_FnRunnersMeetOfAll.l4])
                         | succ k9 =>
                          have H := HA.out
                          clear HA
                          simp only [laws_FnRunnersMeetOfAll.l4] at H
                          have HC311 := Aside0.mk H
                          clear H
                          go_upto_region 82 with (fail)
                          go_cut [655] from 650 to 655 (fun v655 wc => ∃ (kq : Nat) (x655_310 : Bool), v655 = .bool x655_310 ∧ Aside0 (laws_FnRunnersMeetOfAll.j17 kq a4 l5 t329 t330 x71_9 x655_310 = some r) ∧ Aside0 (kq ≤ k9) ∧ Aside0 (wc.heap[gb266]? = some (.cells #[.int .i64 a1_0, .int .i64 a1_1] 45 (0, 0))) ∧ Aside0 (wc.heap[gb267]? = some (.cells #[.int .i64 a2_0, .int .i64 a2_1] 45 (0, 0))) ∧ Aside0 (Below w.heap.size w wc))
                          case first => as_aux_lemma =>
                           have H := HC311.out
                           clear HC311
                           by_cases c312 : t330 = true
                           ·
                            subst c312
                            rw [if_pos rfl] at H
                            have H' := Aside0.mk H
                            clear H
                            go_wp2
                            go_meet
                            case rel => exact ⟨_, (decide (x71_9 < t329)), (by first | rfl | (simp; done) | (simp [*]; done)), H', ⟨by have := HJ19.out; have := HJ88.out; have := HJ125.out; have := HJ135.out; have := HJ182.out; have := HJ251.out; have := HJ274.out; have := HK8.out; have := HK9.out; first | omega | exact Nat.le_refl _⟩, ⟨by (with_reducible repeat (first | refine blk_drewN ?_ _ | refine blk_drew ?_ | refine blk_alloc ?_ _)); exact BK266.out⟩, ⟨by (with_reducible repeat (first | refine blk_drewN ?_ _ | refine blk_drew ?_ | refine blk_alloc ?_ _)); exact BK267.out⟩, ⟨bw_⟩⟩
                           ·
                            replace c312 := Bool.eq_false_iff.mpr c312
                            subst c312
                            rw [if_neg (show ¬ (false = true) by decide)] at H
                            have H' := Aside0.mk H
                            clear H
                            go_wp2
                            go_meet
                            case rel => exact ⟨_, (false), (by first | rfl | (simp; done) | (simp [*]; done)), H', ⟨by have := HJ19.out; have := HJ88.out; have := HJ125.out; have := HJ135.out; have := HJ182.out; have := HJ251.out; have := HJ274.out; have := HK8.out; have := HK9.out; first | omega | exact Nat.le_refl _⟩, ⟨by (with_reducible repeat (first | refine blk_drewN ?_ _ | refine blk_drew ?_ | refine blk_alloc ?_ _)); exact BK266.out⟩, ⟨by (with_reducible repeat (first | refine blk_drewN ?_ _ | refine blk_drew ?_ | refine blk_alloc ?_ _)); exact BK267.out⟩, ⟨bw_⟩⟩
                          case rest => as_aux_lemma =>
                           clear HC311
                           (try clear c5); (try clear c7); (try clear c88); (try clear c135); (try clear c273); (try clear c274); (try clear c282); (try clear c283); (try clear c283b0); (try clear hcz24_0); (try clear hcz24_1); (try clear hcz25_0); (try clear hcz25_1); (try clear hcz27_0); (try clear hcz27_1); (try clear hcz28_0); (try clear hcz28_1); (try clear hcz30_0); (try clear hcz30_1); (try clear hcz31_0); (try clear hcz31_1); (try clear hcz33_0); (try clear hcz33_1); (try clear hcz34_0); (try clear hcz34_1); (try clear hcz36_0); (try clear hcz36_1); (try clear hcz37_0); (try clear hcz37_1); (try clear hcz39_0); (try clear hcz39_1); (try clear hcz40_0); (try clear hcz40_1); (try clear hcz42_0); (try clear hcz42_1); (try clear hcz43_0); (try clear hcz43_1); (try clear hcz45_0); (try clear hcz45_1); (try clear hcz46_0); (try clear hcz46_1); (try clear hcz48_0); (try clear hcz48_1); (try clear hcz49_0); (try clear hcz49_1); (try clear hcz51_0); (try clear hcz51_1); (try clear hcz52_0); (try clear hcz52_1); (try clear hfz24_0); (try clear hfz24_1); (try clear hfz25_0); (try clear hfz25_1); (try clear hfz27_0); (try clear hfz27_1); (try clear hfz28_0); (try clear hfz28_1); (try clear hfz30_0); (try clear hfz30_1); (try clear hfz31_0); (try clear hfz31_1); (try clear hfz33_0); (try clear hfz33_1); (try clear hfz34_0); (try clear hfz34_1); (try clear hfz36_0); (try clear hfz36_1); (try clear hfz37_0); (try clear hfz37_1); (try clear hfz39_0); (try clear hfz39_1); (try clear hfz40_0); (try clear hfz40_1); (try clear hfz42_0); (try clear hfz42_1); (try clear hfz43_0); (try clear hfz43_1); (try clear hfz45_0); (try clear hfz45_1); (try clear hfz46_0); (try clear hfz46_1); (try clear hfz48_0); (try clear hfz48_1); (try clear hfz49_0); (try clear hfz49_1); (try clear hfz51_0); (try clear hfz51_1); (try clear hfz52_0); (try clear hfz52_1)
                           obtain ⟨kq, x655_310, rfl, HA, HJ310, BK266, BK267, HB⟩ := hcut
                           cases kq with
                           | zero => exact absurd HA.out (by simp [laws_FnRunnersMeetOfAll.j17])
                           | succ kj310 =>
                            have H := HA.out
                            clear HA
                            simp only [laws_FnRunnersMeetOfAll.j17] at H
                            by_cases c313 : x655_310 = true
                            ·
                             subst c313
                             rw [if_pos rfl] at H
                             have H' := Aside0.mk H
                             clear H
                             go_wp2
                             go_loopg [72, 660] kj310 (fun kq v72 v660 w' => ∃ (x72_11 : Bool) (x660_11 : Int), v72 = .bool x72_11 ∧ v660 = .int .i64 x660_11 ∧ Aside0 (laws_FnRunnersMeetOfAll.l5 kq a4 l5 t329 t330 x71_9 x72_11 l5 (l5.length : Int) x660_11 = some r) ∧ Aside0 (kq ≤ kj310) ∧ Aside0 (w'.heap[gb266]? = some (.cells #[.int .i64 a1_0, .int .i64 a1_1] 45 (0, 0))) ∧ Aside0 (w'.heap[gb267]? = some (.cells #[.int .i64 a2_0, .int .i64 a2_1] 45 (0, 0))) ∧ Aside0 (Below w.heap.size w w'))
                             case atStart => exact ⟨(false), (0), (by first | rfl | (simp; done) | (simp [*]; done)), (by first | rfl | (simp; done) | (simp [*]; done)), H', ⟨Nat.le_refl _⟩, ⟨by (with_reducible repeat (first | refine blk_drewN ?_ _ | refine blk_drew ?_ | refine blk_alloc ?_ _)); exact BK266.out⟩, ⟨by (with_reducible repeat (first | refine blk_drewN ?_ _ | refine blk_drew ?_ | refine blk_alloc ?_ _)); exact BK267.out⟩, ⟨bw_⟩⟩
                             case round => as_aux_lemma =>
                              clear H'
                              (try clear c5); (try clear c7); (try clear c88); (try clear c135); (try clear c273); (try clear c274); (try clear c282); (try clear c283); (try clear c283b0); (try clear c313); (try clear hcz24_0); (try clear hcz24_1); (try clear hcz25_0); (try clear hcz25_1); (try clear hcz27_0); (try clear hcz27_1); (try clear hcz28_0); (try clear hcz28_1); (try clear hcz30_0); (try clear hcz30_1); (try clear hcz31_0); (try clear hcz31_1); (try clear hcz33_0); (try clear hcz33_1); (try clear hcz34_0); (try clear hcz34_1); (try clear hcz36_0); (try clear hcz36_1); (try clear hcz37_0); (try clear hcz37_1); (try clear hcz39_0); (try clear hcz39_1); (try clear hcz40_0); (try clear hcz40_1); (try clear hcz42_0); (try clear hcz42_1); (try clear hcz43_0); (try clear hcz43_1); (try clear hcz45_0); (try clear hcz45_1); (try clear hcz46_0); (try clear hcz46_1); (try clear hcz48_0); (try clear hcz48_1); (try clear hcz49_0); (try clear hcz49_1); (try clear hcz51_0); (try clear hcz51_1); (try clear hcz52_0); (try clear hcz52_1); (try clear hfz24_0); (try clear hfz24_1); (try clear hfz25_0); (try clear hfz25_1); (try clear hfz27_0); (try clear hfz27_1); (try clear hfz28_0); (try clear hfz28_1); (try clear hfz30_0); (try clear hfz30_1); (try clear hfz31_0); (try clear hfz31_1); (try clear hfz33_0); (try clear hfz33_1); (try clear hfz34_0); (try clear hfz34_1); (try clear hfz36_0); (try clear hfz36_1); (try clear hfz37_0); (try clear hfz37_1); (try clear hfz39_0); (try clear hfz39_1); (try clear hfz40_0); (try clear hfz40_1); (try clear hfz42_0); (try clear hfz42_1); (try clear hfz43_0); (try clear hfz43_1); (try clear hfz45_0); (try clear hfz45_1); (try clear hfz46_0); (try clear hfz46_1); (try clear hfz48_0); (try clear hfz48_1); (try clear hfz49_0); (try clear hfz49_1); (try clear hfz51_0); (try clear hfz51_1); (try clear hfz52_0); (try clear hfz52_1)
                              obtain ⟨x72_11, x660_11, rfl, rfl, HA, HK11, BK266, BK267, HB⟩ := hrel
                              cases gk with
                              | zero => exact absurd HA.out (by simp [laws_FnRunnersMeetOfAll.l5])
                              | succ k11 =>
                               have H := HA.out
                               clear HA
                               simp only [laws_FnRunnersMeetOfAll.l5] at H
                               by_cases c314 : x660_11 < (l5.length : Int)
                               ·
                                rw [if_pos c314] at H
                                have c314b0 : decide (x660_11 < (l5.length : Int)) = true := decide_eq_true c314
                                clear c314
                                by_cases c315 : 0 ≤ x660_11
                                ·
                                 rw [if_pos c315] at H
                                 have c315b0 : decide (0 ≤ x660_11) = true := decide_eq_true c315
                                 clear c315
                                 by_cases c316 : x660_11 < (l5.length : Int)
                                 ·
                                  rw [if_pos c316] at H
                                  have c316b0 : decide (x660_11 < (l5.length : Int)) = true := decide_eq_true c316
                                  clear c316
                                  replace H := Option.bind_eq_some_iff.mp H
                                  obtain ⟨⟨t348, t349⟩, A3170, H⟩ := H
                                  (try dsimp only at H)
                                  have A317 := Aside0.mk A3170
                                  clear A3170
                                  by_cases c318 : 0 < (l5.length : Int)
                                  ·
                                   rw [if_pos c318] at H
                                   have c318b0 : decide (0 < (l5.length : Int)) = true := decide_eq_true c318
                                   have c318b1 : decide (0 < l5.length) = true := decide_eq_true (by omega)
                                   clear c318
                                   replace H := Option.bind_eq_some_iff.mp H
                                   obtain ⟨⟨t351, t352⟩, A3190, H⟩ := H
                                   (try dsimp only at H)
                                   have A319 := Aside0.mk A3190
                                   clear A3190
                                   by_cases c320 : t349 = true
                                   ·
                                    subst c320
                                    rw [if_pos rfl] at H
                                    by_cases c321 : t352 = true
                                    ·
                                     subst c321
                                     rw [if_pos rfl] at H
                                     by_cases c322 : x72_11 = true
                                     ·
                                      subst c322
                                      rw [if_pos rfl] at H
                                      have H' := Aside0.mk H
                                      clear H
                                      have p346 : 0 ≤ (x660_11 : Int) := of_decide_eq_true (by first | (with_reducible assumption) | assumption)
                                      have q346 : x660_11 < (l5.length : Int) := of_decide_eq_true (by first | (with_reducible assumption) | assumption)
                                      obtain ⟨ad346, e346, hx346_0, hx346_1⟩ := at_T45 HR5.out x660_11 p346 q346
                                      cases e346
                                      replace hx346_0 := (HB.out.cell (World.block_lt_of_cell? w _ hx346_0)).trans hx346_0
                                      replace hx346_1 := (HB.out.cell (World.block_lt_of_cell? w _ hx346_1)).trans hx346_1
                                      replace p346 := eq_true p346
                                      replace q346 := eq_true q346
                                      go_wp2_with (first | ((with_reducible refine gate_dst (N := 74) rfl ?_); (try (refine gate_guard (by rfl) ?_; dsimp only)); refine box_event ?hg (N := 74) ?hd (cs := #[.int .i64 0, .int .i64 0]) (t := 45) ?hr ?_; (case hd => rfl); (case hg => rfl); (case hr => first | (go_simp; done) | (go_simp; rfl)); intro gb347 hg w323 hbox hb; have n0_ := Aside0.mk (blk_below (g := gb266) (o := .cells #[.int .i64 a1_0, .int .i64 a1_1] 45 (0, 0)) bk_ hb); have n1_ := Aside0.mk (blk_below (g := gb267) (o := .cells #[.int .i64 a2_0, .int .i64 a2_1] 45 (0, 0)) bk_ hb); have n2_ := Aside0.mk (below_step bw_ hb); have n3_ := Aside0.mk (hbox); have n4_ := Aside0.mk ((by rw [hg]; exact (below_size bw_) : w.heap.size ≤ gb347)); have n5_ := Aside0.mk ((by rw [hg]; exact (below_size bw_) : w.heap.size ≤ gb347)); have n6_ := Aside0.mk ((by rw [hg]; exact Nat.ne_of_lt (blk_lt (g := gb266) (o := .cells #[.int .i64 a1_0, .int .i64 a1_1] 45 (0, 0)) bk_) : gb266 ≠ gb347)); have n7_ := Aside0.mk ((by rw [hg]; exact Nat.ne_of_gt (blk_lt (g := gb266) (o := .cells #[.int .i64 a1_0, .int .i64 a1_1] 45 (0, 0)) bk_) : gb347 ≠ gb266)); have n8_ := Aside0.mk ((by rw [hg]; exact Nat.ne_of_lt (blk_lt (g := gb267) (o := .cells #[.int .i64 a2_0, .int .i64 a2_1] 45 (0, 0)) bk_) : gb267 ≠ gb347)); have n9_ := Aside0.mk ((by rw [hg]; exact Nat.ne_of_gt (blk_lt (g := gb267) (o := .cells #[.int .i64 a2_0, .int .i64 a2_1] 45 (0, 0)) bk_) : gb347 ≠ gb267)); clear BK266; clear BK267; clear HB; have BK266 := n0_; have BK267 := n1_; have HB := n2_; have BK347 := n3_; have GW347 := n4_; have GE347 := n5_; have NB266_347 := n6_; have NB347_266 := n7_; have NB267_347 := n8_; have NB347_267 := n9_; clear n0_ n1_ n2_ n3_ n4_ n5_ n6_ n7_ n8_ n9_; clear hb hbox hg; have hnb324 := NB347_266.out; have hnc324 := NB266_347.out; have hnb325 := NB347_267.out; have hnc325 := NB267_347.out; have hcz326_0 : w323.cell? ⟨gb347, 0, none⟩ = some (.int .i64 0) := (blk_cell BK347.out 0).trans rfl; have hcz326_1 : w323.cell? ⟨gb347, 1, none⟩ = some (.int .i64 0) := (blk_cell BK347.out 1).trans rfl; have hfz326_0 := blk_frozen BK347.out 0; have hfz326_1 := blk_frozen BK347.out 1) | ((with_reducible refine gate_callee (f := 34) rfl ?_); refine goesL_ (some 668) rfl rfl Try.func34 (by kernel_rfl) rfl #[.int .i64 a4, .agg #[.int .i64 ((rd_T45 l5 x660_11).f0), .int .i64 ((rd_T45 l5 x660_11).f1)], .int .i64 x71_9] rfl (by (try simp only [List.map_toArray, List.map_cons, List.map_nil]); first | done | rfl | (simp only [List.length_drop, List.length_take]; rfl)) ?_; (with_reducible refine (impl_PlaceOnTrack.calls a4 ((rd_T45 l5 x660_11).f0) ((rd_T45 l5 x660_11).f1) x71_9 t348 true _ A317.out).mono ?_); rintro e w327 ⟨rfl, hb⟩; refine ⟨_, rfl, ?_⟩; have n0_ := Aside0.mk (blk_below (g := gb266) (o := .cells #[.int .i64 a1_0, .int .i64 a1_1] 45 (0, 0)) (by (with_reducible repeat (first | refine blk_drewN ?_ _ | refine blk_drew ?_ | refine blk_alloc ?_ _)); refine blk_far ?_ NB266_347.out _; (with_reducible repeat (first | refine blk_drewN ?_ _ | refine blk_drew ?_ | refine blk_alloc ?_ _)); refine blk_far ?_ NB266_347.out _; (with_reducible repeat (first | refine blk_drewN ?_ _ | refine blk_drew ?_ | refine blk_alloc ?_ _)); exact BK266.out) hb); have n1_ := Aside0.mk (blk_below (g := gb267) (o := .cells #[.int .i64 a2_0, .int .i64 a2_1] 45 (0, 0)) (by (with_reducible repeat (first | refine blk_drewN ?_ _ | refine blk_drew ?_ | refine blk_alloc ?_ _)); refine blk_far ?_ NB267_347.out _; (with_reducible repeat (first | refine blk_drewN ?_ _ | refine blk_drew ?_ | refine blk_alloc ?_ _)); refine blk_far ?_ NB267_347.out _; (with_reducible repeat (first | refine blk_drewN ?_ _ | refine blk_drew ?_ | refine blk_alloc ?_ _)); exact BK267.out) hb); have n2_ := Aside0.mk (blk_below (g := gb347) (o := .cells #[.int .i64 ((rd_T45 l5 x660_11).f0), .int .i64 ((rd_T45 l5 x660_11).f1)] 45 (0, 0)) (by (with_reducible repeat (first | refine blk_drewN ?_ _ | refine blk_drew ?_ | refine blk_alloc ?_ _)); refine blk_put (cs := #[.int .i64 ((rd_T45 l5 x660_11).f0), .int .i64 0]) ?_ 1 _ rfl; (with_reducible repeat (first | refine blk_drewN ?_ _ | refine blk_drew ?_ | refine blk_alloc ?_ _)); refine blk_put (cs := #[.int .i64 0, .int .i64 0]) ?_ 0 _ rfl; (with_reducible repeat (first | refine blk_drewN ?_ _ | refine blk_drew ?_ | refine blk_alloc ?_ _)); exact BK347.out) hb); have n3_ := Aside0.mk (below_step bw_ hb); clear BK266; clear BK267; clear BK347; clear HB; have BK266 := n0_; have BK267 := n1_; have BK347 := n2_; have HB := n3_; clear n0_ n1_ n2_ n3_; (try clear hb); (try clear hb2); (try clear hk); (try clear hi); have p350 : 0 ≤ (0 : Int) := (by omega); have q350 : 0 < (l5.length : Int) := of_decide_eq_true (by first | (with_reducible assumption) | assumption); obtain ⟨ad350, e350, hx350_0, hx350_1⟩ := at_T45 HR5.out 0 p350 q350; obtain rfl : ad346 = ad350 := (by injection e350); have qi350 : (0 < l5.length) = True := eq_true (by omega); (try rw [show ((0 : Int)).toNat = 0 from rfl] at hx350_0); (try rw [show 0 * 2 = 0 from rfl] at hx350_0); (try rw [Addr.add_zero'] at hx350_0); (try rw [show ((0 : Int)).toNat = 0 from rfl] at hx350_1); (try rw [show 0 * 2 = 0 from rfl] at hx350_1); (try rw [Addr.add_zero'] at hx350_1); replace hx350_0 := (HB.out.cell (World.block_lt_of_cell? w _ hx350_0)).trans hx350_0; replace hx350_1 := (HB.out.cell (World.block_lt_of_cell? w _ hx350_1)).trans hx350_1; replace p350 := eq_true p350; replace q350 := eq_true q350) | ((with_reducible refine gate_callee (f := 34) rfl ?_); refine goesL_ (some 677) rfl rfl Try.func34 (by kernel_rfl) rfl #[.int .i64 a4, .agg #[.int .i64 ((rd_T45 l5 0).f0), .int .i64 ((rd_T45 l5 0).f1)], .int .i64 x71_9] rfl (by (try simp only [List.map_toArray, List.map_cons, List.map_nil]); first | done | rfl | (simp only [List.length_drop, List.length_take]; rfl)) ?_; (with_reducible refine (impl_PlaceOnTrack.calls a4 ((rd_T45 l5 0).f0) ((rd_T45 l5 0).f1) x71_9 t351 true _ A319.out).mono ?_); rintro e w328 ⟨rfl, hb⟩; refine ⟨_, rfl, ?_⟩; have n0_ := Aside0.mk (blk_below (g := gb266) (o := .cells #[.int .i64 a1_0, .int .i64 a1_1] 45 (0, 0)) bk_ hb); have n1_ := Aside0.mk (blk_below (g := gb267) (o := .cells #[.int .i64 a2_0, .int .i64 a2_1] 45 (0, 0)) bk_ hb); have n2_ := Aside0.mk (blk_below (g := gb347) (o := .cells #[.int .i64 ((rd_T45 l5 x660_11).f0), .int .i64 ((rd_T45 l5 x660_11).f1)] 45 (0, 0)) bk_ hb); have n3_ := Aside0.mk (below_step bw_ hb); clear BK266; clear BK267; clear BK347; clear HB; have BK266 := n0_; have BK267 := n1_; have BK347 := n2_; have HB := n3_; clear n0_ n1_ n2_ n3_; (try clear hb); (try clear hb2); (try clear hk); (try clear hi)))
                                      go_roundg k11
                                      case measure => have := HJ19.out; have := HJ88.out; have := HJ125.out; have := HJ135.out; have := HJ182.out; have := HJ251.out; have := HJ274.out; have := HK8.out; have := HK9.out; have := HJ310.out; have := HK11.out; omega
                                      case rel => exact ⟨(true), (wrap64 (x660_11 + 1)), (by first | rfl | (simp; done) | (simp [*]; done)), (by first | rfl | (simp; done) | (simp [*]; done)), H', ⟨by have := HJ19.out; have := HJ88.out; have := HJ125.out; have := HJ135.out; have := HJ182.out; have := HJ251.out; have := HJ274.out; have := HK8.out; have := HK9.out; have := HJ310.out; have := HK11.out; omega⟩, ⟨by (with_reducible repeat (first | refine blk_drewN ?_ _ | refine blk_drew ?_ | refine blk_alloc ?_ _)); exact BK266.out⟩, ⟨by (with_reducible repeat (first | refine blk_drewN ?_ _ | refine blk_drew ?_ | refine blk_alloc ?_ _)); exact BK267.out⟩, ⟨bw_⟩⟩
                                     ·
                                      replace c322 := Bool.eq_false_iff.mpr c322
                                      subst c322
                                      rw [if_neg (show ¬ (false = true) by decide)] at H
                                      have H' := Aside0.mk H
                                      clear H
                                      have p346 : 0 ≤ (x660_11 : Int) := of_decide_eq_true (by first | (with_reducible assumption) | assumption)
                                      have q346 : x660_11 < (l5.length : Int) := of_decide_eq_true (by first | (with_reducible assumption) | assumption)
                                      obtain ⟨ad346, e346, hx346_0, hx346_1⟩ := at_T45 HR5.out x660_11 p346 q346
                                      cases e346
                                      replace hx346_0 := (HB.out.cell (World.block_lt_of_cell? w _ hx346_0)).trans hx346_0
                                      replace hx346_1 := (HB.out.cell (World.block_lt_of_cell? w _ hx346_1)).trans hx346_1
                                      replace p346 := eq_true p346
                                      replace q346 := eq_true q346
                                      go_wp2_with (first | ((with_reducible refine gate_dst (N := 74) rfl ?_); (try (refine gate_guard (by rfl) ?_; dsimp only)); refine box_event ?hg (N := 74) ?hd (cs := #[.int .i64 0, .int .i64 0]) (t := 45) ?hr ?_; (case hd => rfl); (case hg => rfl); (case hr => first | (go_simp; done) | (go_simp; rfl)); intro gb347 hg w329 hbox hb; have n0_ := Aside0.mk (blk_below (g := gb266) (o := .cells #[.int .i64 a1_0, .int .i64 a1_1] 45 (0, 0)) bk_ hb); have n1_ := Aside0.mk (blk_below (g := gb267) (o := .cells #[.int .i64 a2_0, .int .i64 a2_1] 45 (0, 0)) bk_ hb); have n2_ := Aside0.mk (below_step bw_ hb); have n3_ := Aside0.mk (hbox); have n4_ := Aside0.mk ((by rw [hg]; exact (below_size bw_) : w.heap.size ≤ gb347)); have n5_ := Aside0.mk ((by rw [hg]; exact (below_size bw_) : w.heap.size ≤ gb347)); have n6_ := Aside0.mk ((by rw [hg]; exact Nat.ne_of_lt (blk_lt (g := gb266) (o := .cells #[.int .i64 a1_0, .int .i64 a1_1] 45 (0, 0)) bk_) : gb266 ≠ gb347)); have n7_ := Aside0.mk ((by rw [hg]; exact Nat.ne_of_gt (blk_lt (g := gb266) (o := .cells #[.int .i64 a1_0, .int .i64 a1_1] 45 (0, 0)) bk_) : gb347 ≠ gb266)); have n8_ := Aside0.mk ((by rw [hg]; exact Nat.ne_of_lt (blk_lt (g := gb267) (o := .cells #[.int .i64 a2_0, .int .i64 a2_1] 45 (0, 0)) bk_) : gb267 ≠ gb347)); have n9_ := Aside0.mk ((by rw [hg]; exact Nat.ne_of_gt (blk_lt (g := gb267) (o := .cells #[.int .i64 a2_0, .int .i64 a2_1] 45 (0, 0)) bk_) : gb347 ≠ gb267)); clear BK266; clear BK267; clear HB; have BK266 := n0_; have BK267 := n1_; have HB := n2_; have BK347 := n3_; have GW347 := n4_; have GE347 := n5_; have NB266_347 := n6_; have NB347_266 := n7_; have NB267_347 := n8_; have NB347_267 := n9_; clear n0_ n1_ n2_ n3_ n4_ n5_ n6_ n7_ n8_ n9_; clear hb hbox hg; have hnb330 := NB347_266.out; have hnc330 := NB266_347.out; have hnb331 := NB347_267.out; have hnc331 := NB267_347.out; have hcz332_0 : w329.cell? ⟨gb347, 0, none⟩ = some (.int .i64 0) := (blk_cell BK347.out 0).trans rfl; have hcz332_1 : w329.cell? ⟨gb347, 1, none⟩ = some (.int .i64 0) := (blk_cell BK347.out 1).trans rfl; have hfz332_0 := blk_frozen BK347.out 0; have hfz332_1 := blk_frozen BK347.out 1) | ((with_reducible refine gate_callee (f := 34) rfl ?_); refine goesL_ (some 668) rfl rfl Try.func34 (by kernel_rfl) rfl #[.int .i64 a4, .agg #[.int .i64 ((rd_T45 l5 x660_11).f0), .int .i64 ((rd_T45 l5 x660_11).f1)], .int .i64 x71_9] rfl (by (try simp only [List.map_toArray, List.map_cons, List.map_nil]); first | done | rfl | (simp only [List.length_drop, List.length_take]; rfl)) ?_; (with_reducible refine (impl_PlaceOnTrack.calls a4 ((rd_T45 l5 x660_11).f0) ((rd_T45 l5 x660_11).f1) x71_9 t348 true _ A317.out).mono ?_); rintro e w333 ⟨rfl, hb⟩; refine ⟨_, rfl, ?_⟩; have n0_ := Aside0.mk (blk_below (g := gb266) (o := .cells #[.int .i64 a1_0, .int .i64 a1_1] 45 (0, 0)) (by (with_reducible repeat (first | refine blk_drewN ?_ _ | refine blk_drew ?_ | refine blk_alloc ?_ _)); refine blk_far ?_ NB266_347.out _; (with_reducible repeat (first | refine blk_drewN ?_ _ | refine blk_drew ?_ | refine blk_alloc ?_ _)); refine blk_far ?_ NB266_347.out _; (with_reducible repeat (first | refine blk_drewN ?_ _ | refine blk_drew ?_ | refine blk_alloc ?_ _)); exact BK266.out) hb); have n1_ := Aside0.mk (blk_below (g := gb267) (o := .cells #[.int .i64 a2_0, .int .i64 a2_1] 45 (0, 0)) (by (with_reducible repeat (first | refine blk_drewN ?_ _ | refine blk_drew ?_ | refine blk_alloc ?_ _)); refine blk_far ?_ NB267_347.out _; (with_reducible repeat (first | refine blk_drewN ?_ _ | refine blk_drew ?_ | refine blk_alloc ?_ _)); refine blk_far ?_ NB267_347.out _; (with_reducible repeat (first | refine blk_drewN ?_ _ | refine blk_drew ?_ | refine blk_alloc ?_ _)); exact BK267.out) hb); have n2_ := Aside0.mk (blk_below (g := gb347) (o := .cells #[.int .i64 ((rd_T45 l5 x660_11).f0), .int .i64 ((rd_T45 l5 x660_11).f1)] 45 (0, 0)) (by (with_reducible repeat (first | refine blk_drewN ?_ _ | refine blk_drew ?_ | refine blk_alloc ?_ _)); refine blk_put (cs := #[.int .i64 ((rd_T45 l5 x660_11).f0), .int .i64 0]) ?_ 1 _ rfl; (with_reducible repeat (first | refine blk_drewN ?_ _ | refine blk_drew ?_ | refine blk_alloc ?_ _)); refine blk_put (cs := #[.int .i64 0, .int .i64 0]) ?_ 0 _ rfl; (with_reducible repeat (first | refine blk_drewN ?_ _ | refine blk_drew ?_ | refine blk_alloc ?_ _)); exact BK347.out) hb); have n3_ := Aside0.mk (below_step bw_ hb); clear BK266; clear BK267; clear BK347; clear HB; have BK266 := n0_; have BK267 := n1_; have BK347 := n2_; have HB := n3_; clear n0_ n1_ n2_ n3_; (try clear hb); (try clear hb2); (try clear hk); (try clear hi); have p350 : 0 ≤ (0 : Int) := (by omega); have q350 : 0 < (l5.length : Int) := of_decide_eq_true (by first | (with_reducible assumption) | assumption); obtain ⟨ad350, e350, hx350_0, hx350_1⟩ := at_T45 HR5.out 0 p350 q350; obtain rfl : ad346 = ad350 := (by injection e350); have qi350 : (0 < l5.length) = True := eq_true (by omega); (try rw [show ((0 : Int)).toNat = 0 from rfl] at hx350_0); (try rw [show 0 * 2 = 0 from rfl] at hx350_0); (try rw [Addr.add_zero'] at hx350_0); (try rw [show ((0 : Int)).toNat = 0 from rfl] at hx350_1); (try rw [show 0 * 2 = 0 from rfl] at hx350_1); (try rw [Addr.add_zero'] at hx350_1); replace hx350_0 := (HB.out.cell (World.block_lt_of_cell? w _ hx350_0)).trans hx350_0; replace hx350_1 := (HB.out.cell (World.block_lt_of_cell? w _ hx350_1)).trans hx350_1; replace p350 := eq_true p350; replace q350 := eq_true q350) | ((with_reducible refine gate_callee (f := 34) rfl ?_); refine goesL_ (some 677) rfl rfl Try.func34 (by kernel_rfl) rfl #[.int .i64 a4, .agg #[.int .i64 ((rd_T45 l5 0).f0), .int .i64 ((rd_T45 l5 0).f1)], .int .i64 x71_9] rfl (by (try simp only [List.map_toArray, List.map_cons, List.map_nil]); first | done | rfl | (simp only [List.length_drop, List.length_take]; rfl)) ?_; (with_reducible refine (impl_PlaceOnTrack.calls a4 ((rd_T45 l5 0).f0) ((rd_T45 l5 0).f1) x71_9 t351 true _ A319.out).mono ?_); rintro e w334 ⟨rfl, hb⟩; refine ⟨_, rfl, ?_⟩; have n0_ := Aside0.mk (blk_below (g := gb266) (o := .cells #[.int .i64 a1_0, .int .i64 a1_1] 45 (0, 0)) bk_ hb); have n1_ := Aside0.mk (blk_below (g := gb267) (o := .cells #[.int .i64 a2_0, .int .i64 a2_1] 45 (0, 0)) bk_ hb); have n2_ := Aside0.mk (blk_below (g := gb347) (o := .cells #[.int .i64 ((rd_T45 l5 x660_11).f0), .int .i64 ((rd_T45 l5 x660_11).f1)] 45 (0, 0)) bk_ hb); have n3_ := Aside0.mk (below_step bw_ hb); clear BK266; clear BK267; clear BK347; clear HB; have BK266 := n0_; have BK267 := n1_; have BK347 := n2_; have HB := n3_; clear n0_ n1_ n2_ n3_; (try clear hb); (try clear hb2); (try clear hk); (try clear hi)))
                                      go_roundg k11
                                      case measure => have := HJ19.out; have := HJ88.out; have := HJ125.out; have := HJ135.out; have := HJ182.out; have := HJ251.out; have := HJ274.out; have := HK8.out; have := HK9.out; have := HJ310.out; have := HK11.out; omega
                                      case rel => exact ⟨((t348 != t351)), (wrap64 (x660_11 + 1)), (by first | rfl | (simp; done) | (simp [*]; done)), (by first | rfl | (simp; done) | (simp [*]; done)), H', ⟨by have := HJ19.out; have := HJ88.out; have := HJ125.out; have := HJ135.out; have := HJ182.out; have := HJ251.out; have := HJ274.out; have := HK8.out; have := HK9.out; have := HJ310.out; have := HK11.out; omega⟩, ⟨by (with_reducible repeat (first | refine blk_drewN ?_ _ | refine blk_drew ?_ | refine blk_alloc ?_ _)); exact BK266.out⟩, ⟨by (with_reducible repeat (first | refine blk_drewN ?_ _ | refine blk_drew ?_ | refine blk_alloc ?_ _)); exact BK267.out⟩, ⟨bw_⟩⟩
                                    ·
                                     replace c321 := Bool.eq_false_iff.mpr c321
                                     subst c321
                                     rw [if_neg (show ¬ (false = true) by decide)] at H
                                     exact absurd ((Option.some.inj H).trans HRT.out) (by decide)
                                   ·
                                    replace c320 := Bool.eq_false_iff.mpr c320
                                    subst c320
                                    rw [if_neg (show ¬ (false = true) by decide)] at H
                                    exact absurd ((Option.some.inj H).trans HRT.out) (by decide)
                                  ·
                                   rw [if_neg c318] at H
                                   exact absurd H (by simp)
                                 ·
                                  rw [if_neg c316] at H
                                  exact absurd H (by simp)
                                ·
                                 rw [if_neg c315] at H
                                 exact absurd H (by simp)
                               ·
                                rw [if_neg c314] at H
                                have c314b0 : decide (x660_11 < (l5.length : Int)) = false := decide_eq_false c314
                                clear c314
                                by_cases c335 : x72_11 = true
                                ·
                                 subst c335
                                 rw [if_pos rfl] at H
                                 have H' := Aside0.mk H
                                 clear H
                                 go_wp2
                                 go_roundg k11
                                 case measure => have := HJ19.out; have := HJ88.out; have := HJ125.out; have := HJ135.out; have := HJ182.out; have := HJ251.out; have := HJ274.out; have := HK8.out; have := HK9.out; have := HJ310.out; have := HK11.out; omega
                                 case rel => exact ⟨(wrap64 (x71_9 + 1)), (by first | rfl | (simp; done) | (simp [*]; done)), H', ⟨by have := HJ19.out; have := HJ88.out; have := HJ125.out; have := HJ135.out; have := HJ182.out; have := HJ251.out; have := HJ274.out; have := HK8.out; have := HK9.out; have := HJ310.out; have := HK11.out; omega⟩, ⟨by (with_reducible repeat (first | refine blk_drewN ?_ _ | refine blk_drew ?_ | refine blk_alloc ?_ _)); exact BK266.out⟩, ⟨by (with_reducible repeat (first | refine blk_drewN ?_ _ | refine blk_drew ?_ | refine blk_alloc ?_ _)); exact BK267.out⟩, ⟨bw_⟩⟩
                                ·
                                 replace c335 := Bool.eq_false_iff.mpr c335
                                 subst c335
                                 rw [if_neg (show ¬ (false = true) by decide)] at H
                                 exact absurd ((Option.some.inj H).trans HRT.out) (by decide)
                            ·
                             replace c313 := Bool.eq_false_iff.mpr c313
                             subst c313
                             rw [if_neg (show ¬ (false = true) by decide)] at H
                             obtain rfl := Option.some.inj H
                             go_wp2
                             go_ret
                             exact ⟨by first | rfl | (simp [errW_none, errW_some] <;> rfl) | (simp [*, errW_none, errW_some] <;> rfl), by repeat (first | (with_reducible first | exact HB.out | apply below_alloc | apply pw_below_drewN | apply below_drew1 | refine below_set ?_ GE266.out | refine below_set ?_ GE267.out) | exact HB.out)⟩
                 ·
                  replace c274 := Bool.eq_false_iff.mpr c274
                  subst c274
                  rw [if_neg (show ¬ (false = true) by decide)] at H
                  obtain rfl := Option.some.inj H
                  go_wp2
                  go_ret
                  exact ⟨by first | rfl | (simp [errW_none, errW_some] <;> rfl) | (simp [*, errW_none, errW_some] <;> rfl), by repeat (first | (with_reducible first | exact HB.out | apply below_alloc | apply pw_below_drewN | apply below_drew1 | refine below_set ?_ GE266.out | refine below_set ?_ GE267.out) | exact HB.out)⟩

end Go.Proofs.Ytgobnhoblofglaa.PFnRunnersMeetOfAll
