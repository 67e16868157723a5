-- Laid by a program of this session's (wip/gen/printp.sh): the functions that the law reaches, each with its walk.
import Derived.Test.YtgobnhoblofglaaPFnRunnersMeetx0
import Derived.Test.YtgobnhoblofglaaPFnRunnersMeetx1
import Derived.Test.YtgobnhoblofglaaPFnRunnersMeetx2
import Derived.Test.YtgobnhoblofglaaPFnRunnersMeetx3
import Derived.Test.YtgobnhoblofglaaPFnRunnersMeetx4
import Derived.Test.YtgobnhoblofglaaPFnRunnersMeetx5
import Derived.Test.YtgobnhoblofglaaPFnRunnersMeetx6
import Derived.Test.YtgobnhoblofglaaPFnRunnersMeetx7
import Derived.Test.YtgobnhoblofglaaPFnRunnersMeetx8
import Derived.Test.YtgobnhoblofglaaPFnRunnersMeetx9
import Derived.Test.YtgobnhoblofglaaPFnRunnersMeetx10
import Derived.Test.YtgobnhoblofglaaPFnRunnersMeetx11
import Derived.Test.YtgobnhoblofglaaPFnRunnersMeetx12
namespace Go.Proofs.Ytgobnhoblofglaa.PFnRunnersMeet
open Go.RowKit Go.Proofs.YtgobnhoblofglaaW.PrintWords Go.Proofs.YtgobnhoblofglaaW.PrintLast Go.Proofs.YtgobnhoblofglaaW.PrintMore
attribute [local go_sem] max2_int min2_int max_two min_two max_three min_three max_four min_four   -- for this text's walks alone
set_option linter.unusedVariables false
set_option linter.unusedSimpArgs false
set_option maxHeartbeats 80000000 in
set_option maxRecDepth 100000 in
theorem laws_FnRunnersMeet.case6 (k : Nat) (A0 : Option Addr) (c0 : Nat) (l0 : List Int) (A1 : Option Addr) (c1 : Nat) (l1 : List Int) (r : Bool) (w : World) : (laws_FnRunnersMeet.part k A0 c0 l0 A1 c1 l1 r w).2.2.2.2.2.1 := by
             intro HRT hu45 HR0 HC0 HR1 HC1 A3 t398 t399 t400 t401 t402 t403 A5 t406 t409 A6 t410 t413 A7 t414 t415 A8 t416 t417 A9 t418 t419 t420 A10 t421 t422 t423 A11 t424 t427 A12 t428 t431 A13 t432 t433 A14 t434 t435 A15 z1_ nd z2_ w17 gb404 w18 GW404 GE404 gb405 w19 GW405 GE405 NB404_405 NB405_404 hnb20 hnc20 w23 v407 w26 v411 w29 w32 w35 w38 w41 v425 w44 v429 w47 w50 HO408 HO412 HO426 HO430 z3_ z4_ z5_ z6_ u165 u166 u167 u168 u169 u170 u171 u172 u173 u174 u175 u176 u177 u178 u179 u180 u181 u182 u183 u184 u185 u186 u187 u188 u189 u190 u191 u192 u193 u194 u195 u196 u197 u198 u199 u200 u201 u202 u203 u204 u205 u206 u207 u208 u209 u210 u211 u212 u213 u214 u215 u216 u217 u218 u219 u220 u221 u222 u223 u224 u225 u226 u227 u228 u229 u230 u231 u232 u233 u234 u235 u236 u237 HO_9 z7_ z8_ z9_ z10_ kj15 HJ15 z11_ z12_ u32 u33 u34 u35 u36 u240 u241 u242 u243 u244 u245 u246 u247 u248 u249 u250 u251 u252 u253 u254 u255 u256 u257 u258 u259 u260 u261 u262 u263 u264 u265 u266 u267 u268 u269 u270 u271 u272 u273 u274 u275 u276 u277 u278 u279 u280 u281 u282 u283 u284 u285 u286 u287 u288 u289 u290 u291 u292 u293 u294 u295 u296 u297 u298 u299 u300 u301 u302 u303 u304 u305 u306 u307 u308 u309 u310 u311 u312 u313 u314 u315 u316 u317 u318 z13_ z14_ z15_ z16_ kj85 HJ85 z17_ u319 u320 u321 u322 u323 u324 u325 u326 u327 u328 u329 u330 u331 u332 u333 u334 u335 u336 u337 u338 u339 HO_23 z18_ z19_ z20_ kj122 HJ122 z21_ z22_ u37 u38 u39 u40 u41 u42 u43 u44 u45 u342 u343 u344 u345 u346 u347 u348 u349 u350 u351 u352 u353 u354 u355 u356 u357 u358 u359 u360 u361 u362 u363 u364 u365 u366 u367 u368 u369 u370 u371 u372 u373 u374 u375 u376 u377 u378 u379 u380 u381 u382 u383 u384 u385 u386 u387 u388 u389 u390 u391 u392 u393 u394 u395 u396 u397 u398 u399 u400 u401 u402 u403 u404 u405 u406 u407 u408 u409 u410 u411 u412 u413 u414 u415 u416 u417 u418 u419 u420 u421 u422 BK404 BK405 HB kj132 HJ132 HC180 z23_ z24_ wc u4 u46 u47 u48 u49 u50 u51 u424 u425 u426 u427 u428 u429 u430 u431 u432 u433 u434 u435 u436 u437 u438 u439 u440 u441 u442 u443 u444 u445 u446 u447 u448 u449 u450 u451 u452 u453 u454 u455 u456 u457 u458 u459 u460 u461 u462 u463 u464 u465 u466 u467 u468 u469 u470 u471 u472 u473 u474 u475 u476 u477 u478 u479 u480 u481 u482 u483 u484 u485 u486 u487 u488 u489 u490 u491 u492 u493 u494 u495 u496 u497 u498 u499 u500 u501 u502 u503 u504 u505 u506 u507 u508 u509 u510 u511 u512 u513 u514 u515 u516 u517 u518 u519 u520 u521 hcut
             clear HC180
             (try clear c1); (try clear c85); (try clear c132); (try clear hcz21_0); (try clear hcz21_1); (try clear hcz22_0); (try clear hcz22_1); (try clear hcz24_0); (try clear hcz24_1); (try clear hcz25_0); (try clear hcz25_1); (try clear hcz27_0); (try clear hcz27_1); (try clear hcz28_0); (try clear hcz28_1); (try clear hcz30_0); (try clear hcz30_1); (try clear hcz31_0); (try clear hcz31_1); (try clear hcz33_0); (try clear hcz33_1); (try clear hcz34_0); (try clear hcz34_1); (try clear hcz36_0); (try clear hcz36_1); (try clear hcz37_0); (try clear hcz37_1); (try clear hcz39_0); (try clear hcz39_1); (try clear hcz40_0); (try clear hcz40_1); (try clear hcz42_0); (try clear hcz42_1); (try clear hcz43_0); (try clear hcz43_1); (try clear hcz45_0); (try clear hcz45_1); (try clear hcz46_0); (try clear hcz46_1); (try clear hcz48_0); (try clear hcz48_1); (try clear hcz49_0); (try clear hcz49_1); (try clear hfz21_0); (try clear hfz21_1); (try clear hfz22_0); (try clear hfz22_1); (try clear hfz24_0); (try clear hfz24_1); (try clear hfz25_0); (try clear hfz25_1); (try clear hfz27_0); (try clear hfz27_1); (try clear hfz28_0); (try clear hfz28_1); (try clear hfz30_0); (try clear hfz30_1); (try clear hfz31_0); (try clear hfz31_1); (try clear hfz33_0); (try clear hfz33_1); (try clear hfz34_0); (try clear hfz34_1); (try clear hfz36_0); (try clear hfz36_1); (try clear hfz37_0); (try clear hfz37_1); (try clear hfz39_0); (try clear hfz39_1); (try clear hfz40_0); (try clear hfz40_1); (try clear hfz42_0); (try clear hfz42_1); (try clear hfz43_0); (try clear hfz43_1); (try clear hfz45_0); (try clear hfz45_1); (try clear hfz46_0); (try clear hfz46_1); (try clear hfz48_0); (try clear hfz48_1); (try clear hfz49_0); (try clear hfz49_1)
             obtain ⟨kq, HA, HJ179, BK404, BK405, HB⟩ := hcut
             cases kq with
             | zero => exact absurd HA.out (by simp [laws_FnRunnersMeet.j11])
             | succ kj179 =>
              have H := HA.out
              clear HA
              simp only [laws_FnRunnersMeet.j11] at H
              replace H := Option.bind_eq_some_iff.mp H
              obtain ⟨⟨t467, t468⟩, A2450, H⟩ := H
              (try dsimp only at H)
              have A245 := Aside0.mk A2450
              clear A2450
              replace H := Option.bind_eq_some_iff.mp H
              obtain ⟨⟨t471, t472⟩, A2460, H⟩ := H
              (try dsimp only at H)
              have A246 := Aside0.mk A2460
              clear A2460
              replace H := Option.bind_eq_some_iff.mp H
              obtain ⟨⟨t473, t474⟩, A2470, H⟩ := H
              (try dsimp only at H)
              have A247 := Aside0.mk A2470
              clear A2470
              replace H := Option.bind_eq_some_iff.mp H
              obtain ⟨⟨t475, t476⟩, A2480, H⟩ := H
              (try dsimp only at H)
              have A248 := Aside0.mk A2480
              clear A2480
              replace H := Option.bind_eq_some_iff.mp H
              obtain ⟨⟨t477, t478⟩, A2490, H⟩ := H
              (try dsimp only at H)
              have A249 := Aside0.mk A2490
              clear A2490
              have HC250 := Aside0.mk H
              clear H
              go_upto_region 65 with (first | ((with_reducible refine gate_callee (f := 44) rfl ?_); refine goesL_ (some 524) rfl rfl Try.func44 (by kernel_rfl) rfl #[.slice A1 l1.length c1] rfl (by (try simp only [List.map_toArray, List.map_cons, List.map_nil]); first | done | rfl | (simp only [List.length_drop, List.length_take]; rfl)) ?_; (with_reducible refine (spec_DrawAllRunnersTogether.calls kj179 _ _ l1 t467 t468 _ ?side1 ?side2 A245.out).mono ?_); (case side1 => repeat (first | exact (Kd.C_below HR1.out HB.out) | (with_reducible refine Kd.C_alloc ?_ _) | (with_reducible refine Kd.C_drewN ?_ _) | (with_reducible refine Kd.C_drew ?_))); (case side2 => exact HC1.out); rintro e w251 ⟨v469, rfl, ho0, hb⟩; refine ⟨_, rfl, ?_⟩; have n0_ := Aside0.mk (Kd.R_lower (Kd.R_newB (Kd.R_newB ho0 (g := gb404) (o := .cells #[.int .i64 t399, .int .i64 t400] 45 (0, 0)) bk_) (g := gb405) (o := .cells #[.int .i64 t401, .int .i64 t402] 45 (0, 0)) bk_) (below_size bw_)); have n1_ := Aside0.mk (blk_below (g := gb404) (o := .cells #[.int .i64 t399, .int .i64 t400] 45 (0, 0)) bk_ hb); have n2_ := Aside0.mk (blk_below (g := gb405) (o := .cells #[.int .i64 t401, .int .i64 t402] 45 (0, 0)) bk_ hb); have n3_ := Aside0.mk (below_step bw_ hb); clear BK404; clear BK405; clear HB; have HO470 := n0_; have BK404 := n1_; have BK405 := n2_; have HB := n3_; clear n0_ n1_ n2_ n3_; (try clear hb); (try clear hb2); (try clear hk); (try clear hi); (try clear ho0); obtain ⟨Ao252, co252, eo252⟩ := Kd.R_slice HO470.out; subst eo252) | ((with_reducible refine gate_callee (f := 37) rfl ?_); refine goesL_ (some 530) rfl rfl Try.func37 (by kernel_rfl) rfl #[.int .i64 t467, .slice Ao252 t468.length co252] rfl (by (try simp only [List.map_toArray, List.map_cons, List.map_nil]); first | done | rfl | (simp only [List.length_drop, List.length_take]; rfl)) ?_; (with_reducible refine (impl_AllRunnersTogether.calls kj179 t467 _ _ t468 t471 t472 _ ?side1 ?side2 A246.out).mono ?_); (case side1 => repeat (first | exact (Kd.R_reads' HO470.out).2.2 | (with_reducible refine Kd.C_alloc ?_ _) | (with_reducible refine Kd.C_drewN ?_ _) | (with_reducible refine Kd.C_drew ?_))); (case side2 => exact (Kd.R_reads' HO470.out).2.1); rintro e w253 ⟨rfl, hb⟩; refine ⟨_, rfl, ?_⟩; have n0_ := Aside0.mk (Kd.R_below (by (with_reducible repeat (first | apply Kd.R_alloc | apply Kd.R_drewN | apply Kd.R_drew)); exact HO470.out) hb); have n1_ := Aside0.mk (blk_below (g := gb404) (o := .cells #[.int .i64 t399, .int .i64 t400] 45 (0, 0)) bk_ hb); have n2_ := Aside0.mk (blk_below (g := gb405) (o := .cells #[.int .i64 t401, .int .i64 t402] 45 (0, 0)) bk_ hb); have n3_ := Aside0.mk (below_step bw_ hb); clear HO470; clear BK404; clear BK405; clear HB; have HO470 := n0_; have BK404 := n1_; have BK405 := n2_; have HB := n3_; clear n0_ n1_ n2_ n3_; (try clear hb); (try clear hb2); (try clear hk); (try clear hi)) | ((with_reducible refine gate_callee (f := 38) rfl ?_); refine goesL_ (some 536) rfl rfl Try.func38 (by kernel_rfl) rfl #[.int .i64 t467, .slice Ao252 t468.length co252] rfl (by (try simp only [List.map_toArray, List.map_cons, List.map_nil]); first | done | rfl | (simp only [List.length_drop, List.length_take]; rfl)) ?_; (with_reducible refine (spec_AllRunnersTogether.calls kj179 t467 _ _ t468 t473 t474 _ ?side1 ?side2 A247.out).mono ?_); (case side1 => repeat (first | exact (Kd.R_reads' HO470.out).2.2 | (with_reducible refine Kd.C_alloc ?_ _) | (with_reducible refine Kd.C_drewN ?_ _) | (with_reducible refine Kd.C_drew ?_))); (case side2 => exact (Kd.R_reads' HO470.out).2.1); rintro e w254 ⟨rfl, hb⟩; refine ⟨_, rfl, ?_⟩; have n0_ := Aside0.mk (Kd.R_below (by (with_reducible repeat (first | apply Kd.R_alloc | apply Kd.R_drewN | apply Kd.R_drew)); exact HO470.out) hb); have n1_ := Aside0.mk (blk_below (g := gb404) (o := .cells #[.int .i64 t399, .int .i64 t400] 45 (0, 0)) bk_ hb); have n2_ := Aside0.mk (blk_below (g := gb405) (o := .cells #[.int .i64 t401, .int .i64 t402] 45 (0, 0)) bk_ hb); have n3_ := Aside0.mk (below_step bw_ hb); clear HO470; clear BK404; clear BK405; clear HB; have HO470 := n0_; have BK404 := n1_; have BK405 := n2_; have HB := n3_; clear n0_ n1_ n2_ n3_; (try clear hb); (try clear hb2); (try clear hk); (try clear hi)) | ((with_reducible refine gate_callee (f := 36) rfl ?_); refine goesL_ (some 542) rfl rfl Try.func36 (by kernel_rfl) rfl #[.int .i64 t467, .slice Ao252 t468.length co252] rfl (by (try simp only [List.map_toArray, List.map_cons, List.map_nil]); first | done | rfl | (simp only [List.length_drop, List.length_take]; rfl)) ?_; (with_reducible refine (impl_RunPeriod.calls kj179 t467 _ _ t468 t475 t476 _ ?side1 ?side2 A248.out).mono ?_); (case side1 => repeat (first | exact (Kd.R_reads' HO470.out).2.2 | (with_reducible refine Kd.C_alloc ?_ _) | (with_reducible refine Kd.C_drewN ?_ _) | (with_reducible refine Kd.C_drew ?_))); (case side2 => exact (Kd.R_reads' HO470.out).2.1); rintro e w255 ⟨rfl, hb⟩; refine ⟨_, rfl, ?_⟩; have n0_ := Aside0.mk (Kd.R_below (by (with_reducible repeat (first | apply Kd.R_alloc | apply Kd.R_drewN | apply Kd.R_drew)); exact HO470.out) hb); have n1_ := Aside0.mk (blk_below (g := gb404) (o := .cells #[.int .i64 t399, .int .i64 t400] 45 (0, 0)) bk_ hb); have n2_ := Aside0.mk (blk_below (g := gb405) (o := .cells #[.int .i64 t401, .int .i64 t402] 45 (0, 0)) bk_ hb); have n3_ := Aside0.mk (below_step bw_ hb); clear HO470; clear BK404; clear BK405; clear HB; have HO470 := n0_; have BK404 := n1_; have BK405 := n2_; have HB := n3_; clear n0_ n1_ n2_ n3_; (try clear hb); (try clear hb2); (try clear hk); (try clear hi)) | ((with_reducible refine gate_callee (f := 39) rfl ?_); refine goesL_ (some 548) rfl rfl Try.func39 (by kernel_rfl) rfl #[.int .i64 t467, .slice Ao252 t468.length co252] rfl (by (try simp only [List.map_toArray, List.map_cons, List.map_nil]); first | done | rfl | (simp only [List.length_drop, List.length_take]; rfl)) ?_; (with_reducible refine (spec_RunPeriod.calls kj179 t467 _ _ t468 t477 t478 _ ?side1 ?side2 A249.out).mono ?_); (case side1 => repeat (first | exact (Kd.R_reads' HO470.out).2.2 | (with_reducible refine Kd.C_alloc ?_ _) | (with_reducible refine Kd.C_drewN ?_ _) | (with_reducible refine Kd.C_drew ?_))); (case side2 => exact (Kd.R_reads' HO470.out).2.1); rintro e w256 ⟨rfl, hb⟩; refine ⟨_, rfl, ?_⟩; have n0_ := Aside0.mk (Kd.R_below (by (with_reducible repeat (first | apply Kd.R_alloc | apply Kd.R_drewN | apply Kd.R_drew)); exact HO470.out) hb); have n1_ := Aside0.mk (blk_below (g := gb404) (o := .cells #[.int .i64 t399, .int .i64 t400] 45 (0, 0)) bk_ hb); have n2_ := Aside0.mk (blk_below (g := gb405) (o := .cells #[.int .i64 t401, .int .i64 t402] 45 (0, 0)) bk_ hb); have n3_ := Aside0.mk (below_step bw_ hb); clear HO470; clear BK404; clear BK405; clear HB; have HO470 := n0_; have BK404 := n1_; have BK405 := n2_; have HB := n3_; clear n0_ n1_ n2_ n3_; (try clear hb); (try clear hb2); (try clear hk); (try clear hi)))
              (try simp only [Act.put, List.setIfInBounds_toArray, List.set_cons_zero, List.set_cons_succ])
              go_cut [591] from 551 to 591 (fun v591 wc => ∃ (kq : Nat) (x591_249 : Bool), v591 = .bool x591_249 ∧ Aside0 (laws_FnRunnersMeet.j12 kq t467 t468 t471 t472 t475 t476 x591_249 = some r) ∧ Aside0 (kq ≤ kj179) ∧ Aside0 (Kd.R k45 45 wc w.heap.size (fun k_ => k_ ≠ gb404 ∧ k_ ≠ gb405) (.slice Ao252 t468.length co252) t468) ∧ Aside0 (wc.heap[gb404]? = some (.cells #[.int .i64 t399, .int .i64 t400] 45 (0, 0))) ∧ Aside0 (wc.heap[gb405]? = some (.cells #[.int .i64 t401, .int .i64 t402] 45 (0, 0))) ∧ Aside0 (Below w.heap.size w wc))
              case first => as_aux_lemma =>
               have H := HC250.out
               clear HC250
               by_cases c257 : (t472 != t474) = true
               ·
                rw [if_pos c257] at H
                have c257b0 : (t472 != t474) = true := c257
                (try (have c257b1 : decide (t472 = t474) = false := by simpa using c257))
                (try (have c257b2 : (t472 == t474) = false := by simpa using c257))
                (try (have c257b3 : ¬ (t472 = t474) := by simpa using c257))
                clear c257
                (first | rw [c257b0] | (simp only [i64_w, i32_w]; rw [c257b0]) | skip)
                exact absurd (H.trans (congrArg some HRT.out)) (by cases kj179 <;> simp [laws_FnRunnersMeet.j12])
               ·
                rw [if_neg c257] at H
                have c257b0 : (t472 != t474) = false := by simpa using c257
                (try (have c257b1 : decide (t472 = t474) = true := by simpa using c257))
                (try (have c257b2 : (t472 == t474) = true := by simpa using c257))
                clear c257
                (first | rw [c257b0] | (simp only [i64_w, i32_w]; rw [c257b0]) | skip)
                by_cases c258 : t471 = t473
                ·
                 rw [if_pos c258] at H
                 have c258b0 : (t471 == t473) = true := beq_iff_eq.mpr c258
                 have c258b1 : (t471 != t473) = false := bne_eq_false_iff_eq.mpr c258
                 clear c258
                 by_cases c259 : (t476 != t478) = true
                 ·
                  rw [if_pos c259] at H
                  have c259b0 : (t476 != t478) = true := c259
                  (try (have c259b1 : decide (t476 = t478) = false := by simpa using c259))
                  (try (have c259b2 : (t476 == t478) = false := by simpa using c259))
                  (try (have c259b3 : ¬ (t476 = t478) := by simpa using c259))
                  clear c259
                  exact absurd (H.trans (congrArg some HRT.out)) (by cases kj179 <;> simp [laws_FnRunnersMeet.j12])
                 ·
                  rw [if_neg c259] at H
                  have c259b0 : (t476 != t478) = false := by simpa using c259
                  (try (have c259b1 : decide (t476 = t478) = true := by simpa using c259))
                  (try (have c259b2 : (t476 == t478) = true := by simpa using c259))
                  clear c259
                  by_cases c260 : t475 = t477
                  ·
                   rw [if_pos c260] at H
                   have c260b0 : (t475 == t477) = true := beq_iff_eq.mpr c260
                   have c260b1 : (t475 != t477) = false := bne_eq_false_iff_eq.mpr c260
                   clear c260
                   replace H := Option.bind_eq_some_iff.mp H
                   obtain ⟨t479, A2610, H⟩ := H
                   (try dsimp only at H)
                   have A261 := Aside0.mk A2610
                   clear A2610
                   by_cases c262 : (t476 != t479) = true
                   ·
                    rw [if_pos c262] at H
                    have c262b0 : (t476 != t479) = true := c262
                    (try (have c262b1 : decide (t476 = t479) = false := by simpa using c262))
                    (try (have c262b2 : (t476 == t479) = false := by simpa using c262))
                    (try (have c262b3 : ¬ (t476 = t479) := by simpa using c262))
                    clear c262
                    exact absurd (H.trans (congrArg some HRT.out)) (by cases kj179 <;> simp [laws_FnRunnersMeet.j12])
                   ·
                    rw [if_neg c262] at H
                    have c262b0 : (t476 != t479) = false := by simpa using c262
                    (try (have c262b1 : decide (t476 = t479) = true := by simpa using c262))
                    (try (have c262b2 : (t476 == t479) = true := by simpa using c262))
                    clear c262
                    replace H := Option.bind_eq_some_iff.mp H
                    obtain ⟨t480, A2630, H⟩ := H
                    (try dsimp only at H)
                    have A263 := Aside0.mk A2630
                    have et480 : t479 = t480 := Option.some.inj (A261.out.symm.trans A263.out)
                    subst et480
                    clear A2630
                    replace H := Option.bind_eq_some_iff.mp H
                    obtain ⟨t481, A2640, H⟩ := H
                    (try dsimp only at H)
                    have A264 := Aside0.mk A2640
                    clear A2640
                    by_cases c265 : (t479 != t481) = true
                    ·
                     rw [if_pos c265] at H
                     have c265b0 : (t479 != t481) = true := c265
                     (try (have c265b1 : decide (t479 = t481) = false := by simpa using c265))
                     (try (have c265b2 : (t479 == t481) = false := by simpa using c265))
                     (try (have c265b3 : ¬ (t479 = t481) := by simpa using c265))
                     clear c265
                     exact absurd (H.trans (congrArg some HRT.out)) (by cases kj179 <;> simp [laws_FnRunnersMeet.j12])
                    ·
                     rw [if_neg c265] at H
                     have c265b0 : (t479 != t481) = false := by simpa using c265
                     (try (have c265b1 : decide (t479 = t481) = true := by simpa using c265))
                     (try (have c265b2 : (t479 == t481) = true := by simpa using c265))
                     clear c265
                     by_cases c266 : t472 = true
                     ·
                      subst c266
                      rw [if_pos rfl] at H
                      have H' := Aside0.mk H
                      clear H
                      go_wp2_with (first | (go_at_call 40; (with_reducible refine (impl_AreRunners.calls t467 _ _ t468 t479 _ ?side1 ?side2 A261.out).mono ?_); (case side1 => repeat (first | exact (Kd.R_reads' HO470.out).2.2 | (with_reducible refine Kd.C_alloc ?_ _) | (with_reducible refine Kd.C_drewN ?_ _) | (with_reducible refine Kd.C_drew ?_))); (case side2 => exact (Kd.R_reads' HO470.out).2.1); rintro e w267 ⟨rfl, hb⟩; have n0_ := Aside0.mk (Kd.R_below (by (with_reducible repeat (first | apply Kd.R_alloc | apply Kd.R_drewN | apply Kd.R_drew)); exact HO470.out) hb); have n1_ := Aside0.mk (blk_below (g := gb404) (o := .cells #[.int .i64 t399, .int .i64 t400] 45 (0, 0)) bk_ hb); have n2_ := Aside0.mk (blk_below (g := gb405) (o := .cells #[.int .i64 t401, .int .i64 t402] 45 (0, 0)) bk_ hb); have n3_ := Aside0.mk (below_step bw_ hb); clear HO470; clear BK404; clear BK405; clear HB; have HO470 := n0_; have BK404 := n1_; have BK405 := n2_; have HB := n3_; clear n0_ n1_ n2_ n3_; (try clear hb); (try clear hb2); (try clear hk); (try clear hi)) | (go_at_call 40; (with_reducible refine (impl_AreRunners.calls t467 _ _ t468 t479 _ ?side1 ?side2 A263.out).mono ?_); (case side1 => repeat (first | exact (Kd.R_reads' HO470.out).2.2 | (with_reducible refine Kd.C_alloc ?_ _) | (with_reducible refine Kd.C_drewN ?_ _) | (with_reducible refine Kd.C_drew ?_))); (case side2 => exact (Kd.R_reads' HO470.out).2.1); rintro e w268 ⟨rfl, hb⟩; have n0_ := Aside0.mk (Kd.R_below (by (with_reducible repeat (first | apply Kd.R_alloc | apply Kd.R_drewN | apply Kd.R_drew)); exact HO470.out) hb); have n1_ := Aside0.mk (blk_below (g := gb404) (o := .cells #[.int .i64 t399, .int .i64 t400] 45 (0, 0)) bk_ hb); have n2_ := Aside0.mk (blk_below (g := gb405) (o := .cells #[.int .i64 t401, .int .i64 t402] 45 (0, 0)) bk_ hb); have n3_ := Aside0.mk (below_step bw_ hb); clear HO470; clear BK404; clear BK405; clear HB; have HO470 := n0_; have BK404 := n1_; have BK405 := n2_; have HB := n3_; clear n0_ n1_ n2_ n3_; (try clear hb); (try clear hb2); (try clear hk); (try clear hi)) | (go_at_call 41; (with_reducible refine (spec_AreRunners.calls kj179 t467 _ _ t468 t481 _ ?side1 ?side2 A264.out).mono ?_); (case side1 => repeat (first | exact (Kd.R_reads' HO470.out).2.2 | (with_reducible refine Kd.C_alloc ?_ _) | (with_reducible refine Kd.C_drewN ?_ _) | (with_reducible refine Kd.C_drew ?_))); (case side2 => exact (Kd.R_reads' HO470.out).2.1); rintro e w269 ⟨rfl, hb⟩; have n0_ := Aside0.mk (Kd.R_below (by (with_reducible repeat (first | apply Kd.R_alloc | apply Kd.R_drewN | apply Kd.R_drew)); exact HO470.out) hb); have n1_ := Aside0.mk (blk_below (g := gb404) (o := .cells #[.int .i64 t399, .int .i64 t400] 45 (0, 0)) bk_ hb); have n2_ := Aside0.mk (blk_below (g := gb405) (o := .cells #[.int .i64 t401, .int .i64 t402] 45 (0, 0)) bk_ hb); have n3_ := Aside0.mk (below_step bw_ hb); clear HO470; clear BK404; clear BK405; clear HB; have HO470 := n0_; have BK404 := n1_; have BK405 := n2_; have HB := n3_; clear n0_ n1_ n2_ n3_; (try clear hb); (try clear hb2); (try clear hk); (try clear hi)))
                      go_meet
                      case rel => exact ⟨_, (!t476), (by first | rfl | (simp; done) | (simp [*]; done)), H', ⟨by have := HJ15.out; have := HJ85.out; have := HJ122.out; have := HJ132.out; have := HJ179.out; first | omega | exact Nat.le_refl _⟩, ⟨by (with_reducible repeat (first | apply Kd.R_alloc | apply Kd.R_drewN | apply Kd.R_drew)); exact Kd.R_mono HO470.out (fun _ hk => ⟨hk.1.2, hk.2⟩)⟩, ⟨bk_⟩, ⟨bk_⟩, ⟨bw_⟩⟩
                     ·
                      replace c266 := Bool.eq_false_iff.mpr c266
                      subst c266
                      rw [if_neg (show ¬ (false = true) by decide)] at H
                      have H' := Aside0.mk H
                      clear H
                      go_wp2_with (first | (go_at_call 40; (with_reducible refine (impl_AreRunners.calls t467 _ _ t468 t479 _ ?side1 ?side2 A261.out).mono ?_); (case side1 => repeat (first | exact (Kd.R_reads' HO470.out).2.2 | (with_reducible refine Kd.C_alloc ?_ _) | (with_reducible refine Kd.C_drewN ?_ _) | (with_reducible refine Kd.C_drew ?_))); (case side2 => exact (Kd.R_reads' HO470.out).2.1); rintro e w270 ⟨rfl, hb⟩; have n0_ := Aside0.mk (Kd.R_below (by (with_reducible repeat (first | apply Kd.R_alloc | apply Kd.R_drewN | apply Kd.R_drew)); exact HO470.out) hb); have n1_ := Aside0.mk (blk_below (g := gb404) (o := .cells #[.int .i64 t399, .int .i64 t400] 45 (0, 0)) bk_ hb); have n2_ := Aside0.mk (blk_below (g := gb405) (o := .cells #[.int .i64 t401, .int .i64 t402] 45 (0, 0)) bk_ hb); have n3_ := Aside0.mk (below_step bw_ hb); clear HO470; clear BK404; clear BK405; clear HB; have HO470 := n0_; have BK404 := n1_; have BK405 := n2_; have HB := n3_; clear n0_ n1_ n2_ n3_; (try clear hb); (try clear hb2); (try clear hk); (try clear hi)) | (go_at_call 40; (with_reducible refine (impl_AreRunners.calls t467 _ _ t468 t479 _ ?side1 ?side2 A263.out).mono ?_); (case side1 => repeat (first | exact (Kd.R_reads' HO470.out).2.2 | (with_reducible refine Kd.C_alloc ?_ _) | (with_reducible refine Kd.C_drewN ?_ _) | (with_reducible refine Kd.C_drew ?_))); (case side2 => exact (Kd.R_reads' HO470.out).2.1); rintro e w271 ⟨rfl, hb⟩; have n0_ := Aside0.mk (Kd.R_below (by (with_reducible repeat (first | apply Kd.R_alloc | apply Kd.R_drewN | apply Kd.R_drew)); exact HO470.out) hb); have n1_ := Aside0.mk (blk_below (g := gb404) (o := .cells #[.int .i64 t399, .int .i64 t400] 45 (0, 0)) bk_ hb); have n2_ := Aside0.mk (blk_below (g := gb405) (o := .cells #[.int .i64 t401, .int .i64 t402] 45 (0, 0)) bk_ hb); have n3_ := Aside0.mk (below_step bw_ hb); clear HO470; clear BK404; clear BK405; clear HB; have HO470 := n0_; have BK404 := n1_; have BK405 := n2_; have HB := n3_; clear n0_ n1_ n2_ n3_; (try clear hb); (try clear hb2); (try clear hk); (try clear hi)) | (go_at_call 41; (with_reducible refine (spec_AreRunners.calls kj179 t467 _ _ t468 t481 _ ?side1 ?side2 A264.out).mono ?_); (case side1 => repeat (first | exact (Kd.R_reads' HO470.out).2.2 | (with_reducible refine Kd.C_alloc ?_ _) | (with_reducible refine Kd.C_drewN ?_ _) | (with_reducible refine Kd.C_drew ?_))); (case side2 => exact (Kd.R_reads' HO470.out).2.1); rintro e w272 ⟨rfl, hb⟩; have n0_ := Aside0.mk (Kd.R_below (by (with_reducible repeat (first | apply Kd.R_alloc | apply Kd.R_drewN | apply Kd.R_drew)); exact HO470.out) hb); have n1_ := Aside0.mk (blk_below (g := gb404) (o := .cells #[.int .i64 t399, .int .i64 t400] 45 (0, 0)) bk_ hb); have n2_ := Aside0.mk (blk_below (g := gb405) (o := .cells #[.int .i64 t401, .int .i64 t402] 45 (0, 0)) bk_ hb); have n3_ := Aside0.mk (below_step bw_ hb); clear HO470; clear BK404; clear BK405; clear HB; have HO470 := n0_; have BK404 := n1_; have BK405 := n2_; have HB := n3_; clear n0_ n1_ n2_ n3_; (try clear hb); (try clear hb2); (try clear hk); (try clear hi)))
                      go_meet
                      case rel => exact ⟨_, (false), (by first | rfl | (simp; done) | (simp [*]; done)), H', ⟨by have := HJ15.out; have := HJ85.out; have := HJ122.out; have := HJ132.out; have := HJ179.out; first | omega | exact Nat.le_refl _⟩, ⟨by (with_reducible repeat (first | apply Kd.R_alloc | apply Kd.R_drewN | apply Kd.R_drew)); exact Kd.R_mono HO470.out (fun _ hk => ⟨hk.1.2, hk.2⟩)⟩, ⟨bk_⟩, ⟨bk_⟩, ⟨bw_⟩⟩
                  ·
                   rw [if_neg c260] at H
                   have c260b0 : (t475 == t477) = false := beq_eq_false_iff_ne.mpr c260
                   have c260b1 : (t475 != t477) = true := bne_iff_ne.mpr c260
                   exact absurd (H.trans (congrArg some HRT.out)) (by cases kj179 <;> simp [laws_FnRunnersMeet.j12])
                ·
                 rw [if_neg c258] at H
                 have c258b0 : (t471 == t473) = false := beq_eq_false_iff_ne.mpr c258
                 have c258b1 : (t471 != t473) = true := bne_iff_ne.mpr c258
                 exact absurd (H.trans (congrArg some HRT.out)) (by cases kj179 <;> simp [laws_FnRunnersMeet.j12])
              case rest => as_aux_lemma =>
               clear HC250
               (try clear c1); (try clear c4); (try clear c85); (try clear c132); (try clear hcz21_0); (try clear hcz21_1); (try clear hcz22_0); (try clear hcz22_1); (try clear hcz24_0); (try clear hcz24_1); (try clear hcz25_0); (try clear hcz25_1); (try clear hcz27_0); (try clear hcz27_1); (try clear hcz28_0); (try clear hcz28_1); (try clear hcz30_0); (try clear hcz30_1); (try clear hcz31_0); (try clear hcz31_1); (try clear hcz33_0); (try clear hcz33_1); (try clear hcz34_0); (try clear hcz34_1); (try clear hcz36_0); (try clear hcz36_1); (try clear hcz37_0); (try clear hcz37_1); (try clear hcz39_0); (try clear hcz39_1); (try clear hcz40_0); (try clear hcz40_1); (try clear hcz42_0); (try clear hcz42_1); (try clear hcz43_0); (try clear hcz43_1); (try clear hcz45_0); (try clear hcz45_1); (try clear hcz46_0); (try clear hcz46_1); (try clear hcz48_0); (try clear hcz48_1); (try clear hcz49_0); (try clear hcz49_1); (try clear hfz21_0); (try clear hfz21_1); (try clear hfz22_0); (try clear hfz22_1); (try clear hfz24_0); (try clear hfz24_1); (try clear hfz25_0); (try clear hfz25_1); (try clear hfz27_0); (try clear hfz27_1); (try clear hfz28_0); (try clear hfz28_1); (try clear hfz30_0); (try clear hfz30_1); (try clear hfz31_0); (try clear hfz31_1); (try clear hfz33_0); (try clear hfz33_1); (try clear hfz34_0); (try clear hfz34_1); (try clear hfz36_0); (try clear hfz36_1); (try clear hfz37_0); (try clear hfz37_1); (try clear hfz39_0); (try clear hfz39_1); (try clear hfz40_0); (try clear hfz40_1); (try clear hfz42_0); (try clear hfz42_1); (try clear hfz43_0); (try clear hfz43_1); (try clear hfz45_0); (try clear hfz45_1); (try clear hfz46_0); (try clear hfz46_1); (try clear hfz48_0); (try clear hfz48_1); (try clear hfz49_0); (try clear hfz49_1)
               obtain ⟨kq, x591_249, rfl, HA, HJ249, HO_53, BK404, BK405, HB⟩ := hcut
               cases kq with
               | zero => exact absurd HA.out (by simp [laws_FnRunnersMeet.j12])
               | succ kj249 =>
                have H := HA.out
                clear HA
                simp only [laws_FnRunnersMeet.j12] at H
                by_cases c273 : x591_249 = true
                ·
                 subst c273
                 rw [if_pos rfl] at H
                 exact absurd ((Option.some.inj H).trans HRT.out) (by decide)
                ·
                 replace c273 := Bool.eq_false_iff.mpr c273
                 subst c273
                 rw [if_neg (show ¬ (false = true) by decide)] at H
                 by_cases c274 : t476 = true
                 ·
                  subst c274
                  rw [if_pos rfl] at H
                  have HC275 := Aside0.mk H
                  clear H
                  go_upto_region 68 with (fail)
                  go_cut [617] from 593 to 617 (fun v617 wc => ∃ (kq : Nat) (x617_274 : Bool), v617 = .bool x617_274 ∧ Aside0 (laws_FnRunnersMeet.j13 kq t467 t468 t471 t472 t475 x617_274 = some r) ∧ Aside0 (kq ≤ kj249) ∧ Aside0 (Kd.R k45 45 wc w.heap.size (fun k_ => k_ ≠ gb404 ∧ k_ ≠ gb405) (.slice Ao252 t468.length co252) t468) ∧ Aside0 (wc.heap[gb404]? = some (.cells #[.int .i64 t399, .int .i64 t400] 45 (0, 0))) ∧ Aside0 (wc.heap[gb405]? = some (.cells #[.int .i64 t401, .int .i64 t402] 45 (0, 0))) ∧ Aside0 (Below w.heap.size w wc))
                  case first => as_aux_lemma =>
                   have H := HC275.out
                   clear HC275
                   by_cases c276 : t475 < 1
                   ·
                    rw [if_pos c276] at H
                    have c276b0 : decide (t475 < 1) = true := decide_eq_true c276
                    clear c276
                    (first | rw [c276b0] | (simp only [i64_w, i32_w]; rw [c276b0]) | skip)
                    exact absurd (H.trans (congrArg some HRT.out)) (by cases kj249 <;> simp [laws_FnRunnersMeet.j13])
                   ·
                    rw [if_neg c276] at H
                    have c276b0 : decide (t475 < 1) = false := decide_eq_false c276
                    clear c276
                    (first | rw [c276b0] | (simp only [i64_w, i32_w]; rw [c276b0]) | skip)
                    by_cases c277 : t475 > t467
                    ·
                     rw [if_pos c277] at H
                     have c277b0 : decide (t467 < t475) = true := decide_eq_true c277
                     clear c277
                     exact absurd (H.trans (congrArg some HRT.out)) (by cases kj249 <;> simp [laws_FnRunnersMeet.j13])
                    ·
                     rw [if_neg c277] at H
                     have c277b0 : decide (t467 < t475) = false := decide_eq_false c277
                     clear c277
                     by_cases c278 : t475 = 0
                     ·
                      rw [if_pos c278] at H
                      exact absurd H (by simp)
                     ·
                      rw [if_neg c278] at H
                      have c278b0 : (t475 == 0) = false := beq_eq_false_iff_ne.mpr c278
                      have c278b1 : (t475 != 0) = true := bne_iff_ne.mpr c278
                      by_cases c279 : (Int.tmod t467 t475) = 0
                      ·
                       rw [if_pos c279] at H
                       have c279b0 : ((Int.tmod t467 t475) == 0) = true := beq_iff_eq.mpr c279
                       have c279b1 : ((Int.tmod t467 t475) != 0) = false := bne_eq_false_iff_eq.mpr c279
                       clear c279
                       by_cases c280 : t472 = true
                       ·
                        subst c280
                        rw [if_pos rfl] at H
                        by_cases c281 : t471 < 0
                        ·
                         rw [if_pos c281] at H
                         have c281b0 : decide (t471 < 0) = true := decide_eq_true c281
                         clear c281
                         exact absurd (H.trans (congrArg some HRT.out)) (by cases kj249 <;> simp [laws_FnRunnersMeet.j13])
                        ·
                         rw [if_neg c281] at H
                         have c281b0 : decide (t471 < 0) = false := decide_eq_false c281
                         clear c281
                         have H' := Aside0.mk H
                         clear H
                         go_wp2
                         go_meet
                         case rel => exact ⟨_, (decide (t471 ≥ t475)), (by first | rfl | (simp; done) | (simp [*]; done)), H', ⟨by have := HJ15.out; have := HJ85.out; have := HJ122.out; have := HJ132.out; have := HJ179.out; have := HJ249.out; first | omega | exact Nat.le_refl _⟩, ⟨by (with_reducible repeat (first | apply Kd.R_alloc | apply Kd.R_drewN | apply Kd.R_drew)); exact HO_53.out⟩, ⟨bk_⟩, ⟨bk_⟩, ⟨bw_⟩⟩
                       ·
                        replace c280 := Bool.eq_false_iff.mpr c280
                        subst c280
                        rw [if_neg (show ¬ (false = true) by decide)] at H
                        have H' := Aside0.mk H
                        clear H
                        go_wp2
                        go_meet
                        case rel => exact ⟨_, (false), (by first | rfl | (simp; done) | (simp [*]; done)), H', ⟨by have := HJ15.out; have := HJ85.out; have := HJ122.out; have := HJ132.out; have := HJ179.out; have := HJ249.out; first | omega | exact Nat.le_refl _⟩, ⟨by (with_reducible repeat (first | apply Kd.R_alloc | apply Kd.R_drewN | apply Kd.R_drew)); exact HO_53.out⟩, ⟨bk_⟩, ⟨bk_⟩, ⟨bw_⟩⟩
                      ·
                       rw [if_neg c279] at H
                       have c279b0 : ((Int.tmod t467 t475) == 0) = false := beq_eq_false_iff_ne.mpr c279
                       have c279b1 : ((Int.tmod t467 t475) != 0) = true := bne_iff_ne.mpr c279
                       exact absurd (H.trans (congrArg some HRT.out)) (by cases kj249 <;> simp [laws_FnRunnersMeet.j13])
                  case rest => as_aux_lemma =>
                   clear HC275
                   (try clear c1); (try clear c4); (try clear c85); (try clear c132); (try clear c273); (try clear c274); (try clear hcz21_0); (try clear hcz21_1); (try clear hcz22_0); (try clear hcz22_1); (try clear hcz24_0); (try clear hcz24_1); (try clear hcz25_0); (try clear hcz25_1); (try clear hcz27_0); (try clear hcz27_1); (try clear hcz28_0); (try clear hcz28_1); (try clear hcz30_0); (try clear hcz30_1); (try clear hcz31_0); (try clear hcz31_1); (try clear hcz33_0); (try clear hcz33_1); (try clear hcz34_0); (try clear hcz34_1); (try clear hcz36_0); (try clear hcz36_1); (try clear hcz37_0); (try clear hcz37_1); (try clear hcz39_0); (try clear hcz39_1); (try clear hcz40_0); (try clear hcz40_1); (try clear hcz42_0); (try clear hcz42_1); (try clear hcz43_0); (try clear hcz43_1); (try clear hcz45_0); (try clear hcz45_1); (try clear hcz46_0); (try clear hcz46_1); (try clear hcz48_0); (try clear hcz48_1); (try clear hcz49_0); (try clear hcz49_1); (try clear hfz21_0); (try clear hfz21_1); (try clear hfz22_0); (try clear hfz22_1); (try clear hfz24_0); (try clear hfz24_1); (try clear hfz25_0); (try clear hfz25_1); (try clear hfz27_0); (try clear hfz27_1); (try clear hfz28_0); (try clear hfz28_1); (try clear hfz30_0); (try clear hfz30_1); (try clear hfz31_0); (try clear hfz31_1); (try clear hfz33_0); (try clear hfz33_1); (try clear hfz34_0); (try clear hfz34_1); (try clear hfz36_0); (try clear hfz36_1); (try clear hfz37_0); (try clear hfz37_1); (try clear hfz39_0); (try clear hfz39_1); (try clear hfz40_0); (try clear hfz40_1); (try clear hfz42_0); (try clear hfz42_1); (try clear hfz43_0); (try clear hfz43_1); (try clear hfz45_0); (try clear hfz45_1); (try clear hfz46_0); (try clear hfz46_1); (try clear hfz48_0); (try clear hfz48_1); (try clear hfz49_0); (try clear hfz49_1)
                   obtain ⟨kq, x617_274, rfl, HA, HJ274, HO_53, BK404, BK405, HB⟩ := hcut
                   cases kq with
                   | zero => exact absurd HA.out (by simp [laws_FnRunnersMeet.j13])
                   | succ kj274 =>
                    have H := HA.out
                    clear HA
                    simp only [laws_FnRunnersMeet.j13] at H
                    by_cases c282 : x617_274 = true
                    ·
                     subst c282
                     rw [if_pos rfl] at H
                     exact absurd ((Option.some.inj H).trans HRT.out) (by decide)
                    ·
                     replace c282 := Bool.eq_false_iff.mpr c282
                     subst c282
                     rw [if_neg (show ¬ (false = true) by decide)] at H
                     have H' := Aside0.mk H
                     clear H
                     go_wp2
                     go_loopg [62, 620] kj274 (fun kq v62 v620 w' => ∃ (x62_8 : Int) (x620_8 : Int), v62 = .int .i64 x62_8 ∧ v620 = .int .i64 x620_8 ∧ Aside0 (laws_FnRunnersMeet.l3 kq t467 t468 t471 t472 t475 x62_8 t468 (t468.length : Int) x620_8 = some r) ∧ Aside0 (kq ≤ kj274) ∧ Aside0 (Kd.R k45 45 w' w.heap.size (fun k_ => k_ ≠ gb404 ∧ k_ ≠ gb405) (.slice Ao252 t468.length co252) t468) ∧ Aside0 (Kd.R k45 45 w' w.heap.size (fun k_ => k_ ≠ gb404 ∧ k_ ≠ gb405) (.slice Ao252 t468.length co252) t468) ∧ Aside0 (w'.heap[gb404]? = some (.cells #[.int .i64 t399, .int .i64 t400] 45 (0, 0))) ∧ Aside0 (w'.heap[gb405]? = some (.cells #[.int .i64 t401, .int .i64 t402] 45 (0, 0))) ∧ Aside0 (Below w.heap.size w w'))
                     case atStart => exact ⟨((-1)), (0), (by first | rfl | (simp; done) | (simp [*]; done)), (by first | rfl | (simp; done) | (simp [*]; done)), H', ⟨Nat.le_refl _⟩, ⟨by (with_reducible repeat (first | apply Kd.R_alloc | apply Kd.R_drewN | apply Kd.R_drew)); exact HO_53.out⟩, ⟨by (with_reducible repeat (first | apply Kd.R_alloc | apply Kd.R_drewN | apply Kd.R_drew)); exact HO_53.out⟩, ⟨bk_⟩, ⟨bk_⟩, ⟨bw_⟩⟩
                     case round => as_aux_lemma =>
                      clear H'
                      (try clear c1); (try clear c4); (try clear c85); (try clear c132); (try clear c273); (try clear c274); (try clear c282); (try clear hcz21_0); (try clear hcz21_1); (try clear hcz22_0); (try clear hcz22_1); (try clear hcz24_0); (try clear hcz24_1); (try clear hcz25_0); (try clear hcz25_1); (try clear hcz27_0); (try clear hcz27_1); (try clear hcz28_0); (try clear hcz28_1); (try clear hcz30_0); (try clear hcz30_1); (try clear hcz31_0); (try clear hcz31_1); (try clear hcz33_0); (try clear hcz33_1); (try clear hcz34_0); (try clear hcz34_1); (try clear hcz36_0); (try clear hcz36_1); (try clear hcz37_0); (try clear hcz37_1); (try clear hcz39_0); (try clear hcz39_1); (try clear hcz40_0); (try clear hcz40_1); (try clear hcz42_0); (try clear hcz42_1); (try clear hcz43_0); (try clear hcz43_1); (try clear hcz45_0); (try clear hcz45_1); (try clear hcz46_0); (try clear hcz46_1); (try clear hcz48_0); (try clear hcz48_1); (try clear hcz49_0); (try clear hcz49_1); (try clear hfz21_0); (try clear hfz21_1); (try clear hfz22_0); (try clear hfz22_1); (try clear hfz24_0); (try clear hfz24_1); (try clear hfz25_0); (try clear hfz25_1); (try clear hfz27_0); (try clear hfz27_1); (try clear hfz28_0); (try clear hfz28_1); (try clear hfz30_0); (try clear hfz30_1); (try clear hfz31_0); (try clear hfz31_1); (try clear hfz33_0); (try clear hfz33_1); (try clear hfz34_0); (try clear hfz34_1); (try clear hfz36_0); (try clear hfz36_1); (try clear hfz37_0); (try clear hfz37_1); (try clear hfz39_0); (try clear hfz39_1); (try clear hfz40_0); (try clear hfz40_1); (try clear hfz42_0); (try clear hfz42_1); (try clear hfz43_0); (try clear hfz43_1); (try clear hfz45_0); (try clear hfz45_1); (try clear hfz46_0); (try clear hfz46_1); (try clear hfz48_0); (try clear hfz48_1); (try clear hfz49_0); (try clear hfz49_1)
                      obtain ⟨x62_8, x620_8, rfl, rfl, HA, HK8, HO_53, HO_618, BK404, BK405, HB⟩ := hrel
                      cases gk with
                      | zero => exact absurd HA.out (by simp [laws_FnRunnersMeet.l3])
                      | succ k8 =>
                       have H := HA.out
                       clear HA
                       simp only [laws_FnRunnersMeet.l3] at H
                       by_cases c283 : x620_8 < (t468.length : Int)
                       ·
                        rw [if_pos c283] at H
                        have c283b0 : decide (x620_8 < (t468.length : Int)) = true := decide_eq_true c283
                        clear c283
                        by_cases c284 : 0 ≤ x620_8
                        ·
                         rw [if_pos c284] at H
                         have c284b0 : decide (0 ≤ x620_8) = true := decide_eq_true c284
                         clear c284
                         by_cases c285 : x620_8 < (t468.length : Int)
                         ·
                          rw [if_pos c285] at H
                          have c285b0 : decide (x620_8 < (t468.length : Int)) = true := decide_eq_true c285
                          clear c285
                          replace H := Option.bind_eq_some_iff.mp H
                          obtain ⟨⟨t484, t485⟩, A2860, H⟩ := H
                          (try dsimp only at H)
                          have A286 := Aside0.mk A2860
                          clear A2860
                          have HC287 := Aside0.mk H
                          clear H
                          have p482 : 0 ≤ (x620_8 : Int) := of_decide_eq_true (by first | (with_reducible assumption) | assumption)
                          have q482 : x620_8 < (t468.length : Int) := of_decide_eq_true (by first | (with_reducible assumption) | assumption)
                          obtain ⟨ad482, e482, hx482_0, hx482_1⟩ := at_T45 (Kd.R_reads' HO_618.out).2.2 x620_8 p482 q482
                          cases e482
                          replace p482 := eq_true p482
                          replace q482 := eq_true q482
                          go_upto_region 75 with (first | ((with_reducible refine gate_dst (N := 64) rfl ?_); (try (refine gate_guard (by rfl) ?_; dsimp only)); refine box_event ?hg (N := 64) ?hd (cs := #[.int .i64 0, .int .i64 0]) (t := 45) ?hr ?_; (case hd => rfl); (case hg => rfl); (case hr => first | (go_simp; done) | (go_simp; rfl)); intro gb483 hg w288 hbox hb; have n0_ := Aside0.mk (Kd.R_below (Kd.R_elderB (by (with_reducible repeat (first | apply Kd.R_alloc | apply Kd.R_drewN | apply Kd.R_drew)); exact HO_53.out) gb483 (Nat.le_of_eq hg.symm)) hb); have n1_ := Aside0.mk (Kd.R_below (Kd.R_elderB (by (with_reducible repeat (first | apply Kd.R_alloc | apply Kd.R_drewN | apply Kd.R_drew)); exact HO_618.out) gb483 (Nat.le_of_eq hg.symm)) hb); have n2_ := Aside0.mk (blk_below (g := gb404) (o := .cells #[.int .i64 t399, .int .i64 t400] 45 (0, 0)) bk_ hb); have n3_ := Aside0.mk (blk_below (g := gb405) (o := .cells #[.int .i64 t401, .int .i64 t402] 45 (0, 0)) bk_ hb); have n4_ := Aside0.mk (below_step bw_ hb); have n5_ := Aside0.mk (hbox); have n6_ := Aside0.mk ((by rw [hg]; exact (below_size bw_) : w.heap.size ≤ gb483)); have n7_ := Aside0.mk ((by rw [hg]; exact (below_size bw_) : w.heap.size ≤ gb483)); have n8_ := Aside0.mk ((by rw [hg]; exact Nat.ne_of_lt (blk_lt (g := gb404) (o := .cells #[.int .i64 t399, .int .i64 t400] 45 (0, 0)) bk_) : gb404 ≠ gb483)); have n9_ := Aside0.mk ((by rw [hg]; exact Nat.ne_of_gt (blk_lt (g := gb404) (o := .cells #[.int .i64 t399, .int .i64 t400] 45 (0, 0)) bk_) : gb483 ≠ gb404)); have n10_ := Aside0.mk ((by rw [hg]; exact Nat.ne_of_lt (blk_lt (g := gb405) (o := .cells #[.int .i64 t401, .int .i64 t402] 45 (0, 0)) bk_) : gb405 ≠ gb483)); have n11_ := Aside0.mk ((by rw [hg]; exact Nat.ne_of_gt (blk_lt (g := gb405) (o := .cells #[.int .i64 t401, .int .i64 t402] 45 (0, 0)) bk_) : gb483 ≠ gb405)); clear HO_53; clear HO_618; clear BK404; clear BK405; clear HB; have HO_53 := n0_; have HO_618 := n1_; have BK404 := n2_; have BK405 := n3_; have HB := n4_; have BK483 := n5_; have GW483 := n6_; have GE483 := n7_; have NB404_483 := n8_; have NB483_404 := n9_; have NB405_483 := n10_; have NB483_405 := n11_; clear n0_ n1_ n2_ n3_ n4_ n5_ n6_ n7_ n8_ n9_ n10_ n11_; clear hb hbox hg; have hnb289 := NB483_404.out; have hnc289 := NB404_483.out; have hnb290 := NB483_405.out; have hnc290 := NB405_483.out; have hcz291_0 : w288.cell? ⟨gb483, 0, none⟩ = some (.int .i64 0) := (blk_cell BK483.out 0).trans rfl; have hcz291_1 : w288.cell? ⟨gb483, 1, none⟩ = some (.int .i64 0) := (blk_cell BK483.out 1).trans rfl; have hfz291_0 := blk_frozen BK483.out 0; have hfz291_1 := blk_frozen BK483.out 1) | ((with_reducible refine gate_callee (f := 34) rfl ?_); refine goesL_ (some 628) rfl rfl Try.func34 (by kernel_rfl) rfl #[.int .i64 t467, .agg #[.int .i64 ((rd_T45 t468 x620_8).f0), .int .i64 ((rd_T45 t468 x620_8).f1)], .int .i64 t475] rfl (by (try simp only [List.map_toArray, List.map_cons, List.map_nil]); first | done | rfl | (simp only [List.length_drop, List.length_take]; rfl)) ?_; (with_reducible refine (impl_PlaceOnTrack.calls t467 ((rd_T45 t468 x620_8).f0) ((rd_T45 t468 x620_8).f1) t475 t484 t485 _ A286.out).mono ?_); rintro e w292 ⟨rfl, hb⟩; refine ⟨_, rfl, ?_⟩; have n0_ := Aside0.mk (Kd.R_below (by (with_reducible repeat (first | apply Kd.R_alloc | apply Kd.R_drewN | apply Kd.R_drew)); exact (Kd.R_mono (Kd.R_far (p := ⟨gb483, 1, none⟩) (Kd.R_far (p := ⟨gb483, 0, none⟩) (Kd.R_mono HO_53.out (fun k_ hk => (⟨hk, hk.2⟩ : _ ∧ k_ ≠ gb483))) (fun _ hk => hk.2) (.int .i64 ((rd_T45 t468 x620_8).f0))) (fun _ hk => hk.2) (.int .i64 ((rd_T45 t468 x620_8).f1))) (fun _ h_ => h_.1))) hb); have n1_ := Aside0.mk (Kd.R_below (by (with_reducible repeat (first | apply Kd.R_alloc | apply Kd.R_drewN | apply Kd.R_drew)); exact (Kd.R_mono (Kd.R_far (p := ⟨gb483, 1, none⟩) (Kd.R_far (p := ⟨gb483, 0, none⟩) (Kd.R_mono HO_618.out (fun k_ hk => (⟨hk, hk.2⟩ : _ ∧ k_ ≠ gb483))) (fun _ hk => hk.2) (.int .i64 ((rd_T45 t468 x620_8).f0))) (fun _ hk => hk.2) (.int .i64 ((rd_T45 t468 x620_8).f1))) (fun _ h_ => h_.1))) hb); have n2_ := Aside0.mk (blk_below (g := gb404) (o := .cells #[.int .i64 t399, .int .i64 t400] 45 (0, 0)) (by (with_reducible repeat (first | refine blk_drewN ?_ _ | refine blk_drew ?_ | refine blk_alloc ?_ _)); refine blk_far ?_ NB404_483.out _; (with_reducible repeat (first | refine blk_drewN ?_ _ | refine blk_drew ?_ | refine blk_alloc ?_ _)); refine blk_far ?_ NB404_483.out _; (with_reducible repeat (first | refine blk_drewN ?_ _ | refine blk_drew ?_ | refine blk_alloc ?_ _)); exact BK404.out) hb); have n3_ := Aside0.mk (blk_below (g := gb405) (o := .cells #[.int .i64 t401, .int .i64 t402] 45 (0, 0)) (by (with_reducible repeat (first | refine blk_drewN ?_ _ | refine blk_drew ?_ | refine blk_alloc ?_ _)); refine blk_far ?_ NB405_483.out _; (with_reducible repeat (first | refine blk_drewN ?_ _ | refine blk_drew ?_ | refine blk_alloc ?_ _)); refine blk_far ?_ NB405_483.out _; (with_reducible repeat (first | refine blk_drewN ?_ _ | refine blk_drew ?_ | refine blk_alloc ?_ _)); exact BK405.out) hb); have n4_ := Aside0.mk (blk_below (g := gb483) (o := .cells #[.int .i64 ((rd_T45 t468 x620_8).f0), .int .i64 ((rd_T45 t468 x620_8).f1)] 45 (0, 0)) (by (with_reducible repeat (first | refine blk_drewN ?_ _ | refine blk_drew ?_ | refine blk_alloc ?_ _)); refine blk_put (cs := #[.int .i64 ((rd_T45 t468 x620_8).f0), .int .i64 0]) ?_ 1 _ rfl; (with_reducible repeat (first | refine blk_drewN ?_ _ | refine blk_drew ?_ | refine blk_alloc ?_ _)); refine blk_put (cs := #[.int .i64 0, .int .i64 0]) ?_ 0 _ rfl; (with_reducible repeat (first | refine blk_drewN ?_ _ | refine blk_drew ?_ | refine blk_alloc ?_ _)); exact BK483.out) hb); have n5_ := Aside0.mk (below_step bw_ hb); clear HO_53; clear HO_618; clear BK404; clear BK405; clear BK483; clear HB; have HO_53 := n0_; have HO_618 := n1_; have BK404 := n2_; have BK405 := n3_; have BK483 := n4_; have HB := n5_; clear n0_ n1_ n2_ n3_ n4_ n5_; (try clear hb); (try clear hb2); (try clear hk); (try clear hi)))
                          (try simp only [Act.put, List.setIfInBounds_toArray, List.set_cons_zero, List.set_cons_succ])
                          go_cut [638] from 631 to 638 (fun v638 wc => ∃ (kq : Nat) (x638_286 : Bool), v638 = .bool x638_286 ∧ Aside0 (laws_FnRunnersMeet.j15 kq t467 t468 t471 t472 t475 x62_8 t468 (t468.length : Int) x620_8 x638_286 ((rd_T45 t468 x620_8).f0) ((rd_T45 t468 x620_8).f1) = some r) ∧ Aside0 (kq ≤ k8) ∧ Aside0 (Kd.R k45 45 wc w.heap.size (fun k_ => k_ ≠ gb404 ∧ k_ ≠ gb405 ∧ k_ ≠ gb483) (.slice (some ad482) t468.length co252) t468) ∧ Aside0 (Kd.R k45 45 wc w.heap.size (fun k_ => k_ ≠ gb404 ∧ k_ ≠ gb405 ∧ k_ ≠ gb483) (.slice (some ad482) t468.length co252) t468) ∧ Aside0 (wc.heap[gb404]? = some (.cells #[.int .i64 t399, .int .i64 t400] 45 (0, 0))) ∧ Aside0 (wc.heap[gb405]? = some (.cells #[.int .i64 t401, .int .i64 t402] 45 (0, 0))) ∧ Aside0 (wc.heap[gb483]? = some (.cells #[.int .i64 ((rd_T45 t468 x620_8).f0), .int .i64 ((rd_T45 t468 x620_8).f1)] 45 (0, 0))) ∧ Aside0 (Below w.heap.size w wc))
                          case first => as_aux_lemma =>
                           have H := HC287.out
                           clear HC287
                           by_cases c293 : t485 = true
                           ·
                            subst c293
                            rw [if_pos rfl] at H
                            have H' := Aside0.mk H
                            clear H
                            have hnb294 := NB483_404.out
                            have hnc294 := NB404_483.out
                            have hnb295 := NB483_405.out
                            have hnc295 := NB405_483.out
                            have hcz296_0 : w292.cell? ⟨gb483, 0, none⟩ = some (.int .i64 ((rd_T45 t468 x620_8).f0)) := (blk_cell BK483.out 0).trans rfl
                            have hcz296_1 : w292.cell? ⟨gb483, 1, none⟩ = some (.int .i64 ((rd_T45 t468 x620_8).f1)) := (blk_cell BK483.out 1).trans rfl
                            have hfz296_0 := blk_frozen BK483.out 0
                            have hfz296_1 := blk_frozen BK483.out 1
                            go_wp2
                            go_meet
                            case rel => exact ⟨_, ((t484 != ((rd_T45 t468 x620_8).f0))), (by first | rfl | (simp; done) | (simp [*]; done)), H', ⟨by have := HJ15.out; have := HJ85.out; have := HJ122.out; have := HJ132.out; have := HJ179.out; have := HJ249.out; have := HJ274.out; have := HK8.out; first | omega | exact Nat.le_refl _⟩, ⟨by (with_reducible repeat (first | apply Kd.R_alloc | apply Kd.R_drewN | apply Kd.R_drew)); exact Kd.R_mono HO_53.out (fun _ hk => ⟨hk.1.1, ⟨hk.1.2, hk.2⟩⟩)⟩, ⟨by (with_reducible repeat (first | apply Kd.R_alloc | apply Kd.R_drewN | apply Kd.R_drew)); exact Kd.R_mono HO_618.out (fun _ hk => ⟨hk.1.1, ⟨hk.1.2, hk.2⟩⟩)⟩, ⟨bk_⟩, ⟨bk_⟩, ⟨bk_⟩, ⟨bw_⟩⟩
                           ·
                            replace c293 := Bool.eq_false_iff.mpr c293
                            subst c293
                            rw [if_neg (show ¬ (false = true) by decide)] at H
                            exact absurd (H.trans (congrArg some HRT.out)) (by cases k8 <;> simp [laws_FnRunnersMeet.j15])
                          case rest => as_aux_lemma =>
                           clear HC287
                           (try clear c1); (try clear c4); (try clear c85); (try clear c132); (try clear c273); (try clear c274); (try clear c282); (try clear c283); (try clear c283b0); (try clear c284); (try clear c284b0); (try clear c285); (try clear c285b0); (try clear hcz21_0); (try clear hcz21_1); (try clear hcz22_0); (try clear hcz22_1); (try clear hcz24_0); (try clear hcz24_1); (try clear hcz25_0); (try clear hcz25_1); (try clear hcz27_0); (try clear hcz27_1); (try clear hcz28_0); (try clear hcz28_1); (try clear hcz291_0); (try clear hcz291_1); (try clear hcz30_0); (try clear hcz30_1); (try clear hcz31_0); (try clear hcz31_1); (try clear hcz33_0); (try clear hcz33_1); (try clear hcz34_0); (try clear hcz34_1); (try clear hcz36_0); (try clear hcz36_1); (try clear hcz37_0); (try clear hcz37_1); (try clear hcz39_0); (try clear hcz39_1); (try clear hcz40_0); (try clear hcz40_1); (try clear hcz42_0); (try clear hcz42_1); (try clear hcz43_0); (try clear hcz43_1); (try clear hcz45_0); (try clear hcz45_1); (try clear hcz46_0); (try clear hcz46_1); (try clear hcz48_0); (try clear hcz48_1); (try clear hcz49_0); (try clear hcz49_1); (try clear hfz21_0); (try clear hfz21_1); (try clear hfz22_0); (try clear hfz22_1); (try clear hfz24_0); (try clear hfz24_1); (try clear hfz25_0); (try clear hfz25_1); (try clear hfz27_0); (try clear hfz27_1); (try clear hfz28_0); (try clear hfz28_1); (try clear hfz291_0); (try clear hfz291_1); (try clear hfz30_0); (try clear hfz30_1); (try clear hfz31_0); (try clear hfz31_1); (try clear hfz33_0); (try clear hfz33_1); (try clear hfz34_0); (try clear hfz34_1); (try clear hfz36_0); (try clear hfz36_1); (try clear hfz37_0); (try clear hfz37_1); (try clear hfz39_0); (try clear hfz39_1); (try clear hfz40_0); (try clear hfz40_1); (try clear hfz42_0); (try clear hfz42_1); (try clear hfz43_0); (try clear hfz43_1); (try clear hfz45_0); (try clear hfz45_1); (try clear hfz46_0); (try clear hfz46_1); (try clear hfz48_0); (try clear hfz48_1); (try clear hfz49_0); (try clear hfz49_1); (try clear hx482_0); (try clear hx482_1); (try clear p482); (try clear q482)
                           obtain ⟨kq, x638_286, rfl, HA, HJ286, HO_53, HO_618, BK404, BK405, BK483, HB⟩ := hcut
                           cases kq with
                           | zero => exact absurd HA.out (by simp [laws_FnRunnersMeet.j15])
                           | succ kj286 =>
                            have H := HA.out
                            clear HA
                            simp only [laws_FnRunnersMeet.j15] at H
                            by_cases c297 : x638_286 = true
                            ·
                             subst c297
                             rw [if_pos rfl] at H
                             exact absurd ((Option.some.inj H).trans HRT.out) (by decide)
                            ·
                             replace c297 := Bool.eq_false_iff.mpr c297
                             subst c297
                             rw [if_neg (show ¬ (false = true) by decide)] at H
                             by_cases c298 : t472 = true
                             ·
                              subst c298
                              rw [if_pos rfl] at H
                              replace H := Option.bind_eq_some_iff.mp H
                              obtain ⟨⟨t486, t487⟩, A2990, H⟩ := H
                              (try dsimp only at H)
                              have A299 := Aside0.mk A2990
                              clear A2990
                              by_cases c300 : t487 = true
                              ·
                               subst c300
                               rw [if_pos rfl] at H
                               by_cases c301 : x62_8 ≥ 0
                               ·
                                rw [if_pos c301] at H
                                have c301b0 : decide (0 ≤ x62_8) = true := decide_eq_true c301
                                clear c301
                                by_cases c302 : t486 = x62_8
                                ·
                                 rw [if_pos c302] at H
                                 have c302b0 : (t486 == x62_8) = true := beq_iff_eq.mpr c302
                                 have c302b1 : (t486 != x62_8) = false := bne_eq_false_iff_eq.mpr c302
                                 clear c302
                                 have H' := Aside0.mk H
                                 clear H
                                 have hnb303 := NB483_404.out
                                 have hnc303 := NB404_483.out
                                 have hnb304 := NB483_405.out
                                 have hnc304 := NB405_483.out
                                 have hcz305_0 : wc.cell? ⟨gb483, 0, none⟩ = some (.int .i64 ((rd_T45 t468 x620_8).f0)) := (blk_cell BK483.out 0).trans rfl
                                 have hcz305_1 : wc.cell? ⟨gb483, 1, none⟩ = some (.int .i64 ((rd_T45 t468 x620_8).f1)) := (blk_cell BK483.out 1).trans rfl
                                 have hfz305_0 := blk_frozen BK483.out 0
                                 have hfz305_1 := blk_frozen BK483.out 1
                                 go_wp2_with (first | ((with_reducible refine gate_callee (f := 34) rfl ?_); refine goesL_ (some 644) rfl rfl Try.func34 (by kernel_rfl) rfl #[.int .i64 t467, .agg #[.int .i64 ((rd_T45 t468 x620_8).f0), .int .i64 ((rd_T45 t468 x620_8).f1)], .int .i64 t471] rfl (by (try simp only [List.map_toArray, List.map_cons, List.map_nil]); first | done | rfl | (simp only [List.length_drop, List.length_take]; rfl)) ?_; (with_reducible refine (impl_PlaceOnTrack.calls t467 ((rd_T45 t468 x620_8).f0) ((rd_T45 t468 x620_8).f1) t471 t486 true _ A299.out).mono ?_); rintro e w306 ⟨rfl, hb⟩; refine ⟨_, rfl, ?_⟩; have n0_ := Aside0.mk (Kd.R_below (by (with_reducible repeat (first | apply Kd.R_alloc | apply Kd.R_drewN | apply Kd.R_drew)); exact HO_53.out) hb); have n1_ := Aside0.mk (Kd.R_below (by (with_reducible repeat (first | apply Kd.R_alloc | apply Kd.R_drewN | apply Kd.R_drew)); exact HO_618.out) hb); have n2_ := Aside0.mk (blk_below (g := gb404) (o := .cells #[.int .i64 t399, .int .i64 t400] 45 (0, 0)) bk_ hb); have n3_ := Aside0.mk (blk_below (g := gb405) (o := .cells #[.int .i64 t401, .int .i64 t402] 45 (0, 0)) bk_ hb); have n4_ := Aside0.mk (blk_below (g := gb483) (o := .cells #[.int .i64 ((rd_T45 t468 x620_8).f0), .int .i64 ((rd_T45 t468 x620_8).f1)] 45 (0, 0)) bk_ hb); have n5_ := Aside0.mk (below_step bw_ hb); clear HO_53; clear HO_618; clear BK404; clear BK405; clear BK483; clear HB; have HO_53 := n0_; have HO_618 := n1_; have BK404 := n2_; have BK405 := n3_; have BK483 := n4_; have HB := n5_; clear n0_ n1_ n2_ n3_ n4_ n5_; (try clear hb); (try clear hb2); (try clear hk); (try clear hi)))
                                 go_roundg kj286
                                 case measure => have := HJ15.out; have := HJ85.out; have := HJ122.out; have := HJ132.out; have := HJ179.out; have := HJ249.out; have := HJ274.out; have := HK8.out; have := HJ286.out; omega
                                 case rel => exact ⟨(t486), (wrap64 (x620_8 + 1)), (by first | rfl | (simp; done) | (simp [*]; done)), (by first | rfl | (simp; done) | (simp [*]; done)), H', ⟨by have := HJ15.out; have := HJ85.out; have := HJ122.out; have := HJ132.out; have := HJ179.out; have := HJ249.out; have := HJ274.out; have := HK8.out; have := HJ286.out; omega⟩, ⟨by (with_reducible repeat (first | apply Kd.R_alloc | apply Kd.R_drewN | apply Kd.R_drew)); exact Kd.R_mono HO_53.out (fun _ hk => ⟨hk.1, hk.2.1⟩)⟩, ⟨by (with_reducible repeat (first | apply Kd.R_alloc | apply Kd.R_drewN | apply Kd.R_drew)); exact Kd.R_mono HO_618.out (fun _ hk => ⟨hk.1, hk.2.1⟩)⟩, ⟨bk_⟩, ⟨bk_⟩, ⟨bw_⟩⟩
                                ·
                                 rw [if_neg c302] at H
                                 have c302b0 : (t486 == x62_8) = false := beq_eq_false_iff_ne.mpr c302
                                 have c302b1 : (t486 != x62_8) = true := bne_iff_ne.mpr c302
                                 exact absurd ((Option.some.inj H).trans HRT.out) (by decide)
                               ·
                                rw [if_neg c301] at H
                                have c301b0 : decide (0 ≤ x62_8) = false := decide_eq_false c301
                                clear c301
                                have H' := Aside0.mk H
                                clear H
                                have hnb307 := NB483_404.out
                                have hnc307 := NB404_483.out
                                have hnb308 := NB483_405.out
                                have hnc308 := NB405_483.out
                                have hcz309_0 : wc.cell? ⟨gb483, 0, none⟩ = some (.int .i64 ((rd_T45 t468 x620_8).f0)) := (blk_cell BK483.out 0).trans rfl
                                have hcz309_1 : wc.cell? ⟨gb483, 1, none⟩ = some (.int .i64 ((rd_T45 t468 x620_8).f1)) := (blk_cell BK483.out 1).trans rfl
                                have hfz309_0 := blk_frozen BK483.out 0
                                have hfz309_1 := blk_frozen BK483.out 1
                                go_wp2_with (first | ((with_reducible refine gate_callee (f := 34) rfl ?_); refine goesL_ (some 644) rfl rfl Try.func34 (by kernel_rfl) rfl #[.int .i64 t467, .agg #[.int .i64 ((rd_T45 t468 x620_8).f0), .int .i64 ((rd_T45 t468 x620_8).f1)], .int .i64 t471] rfl (by (try simp only [List.map_toArray, List.map_cons, List.map_nil]); first | done | rfl | (simp only [List.length_drop, List.length_take]; rfl)) ?_; (with_reducible refine (impl_PlaceOnTrack.calls t467 ((rd_T45 t468 x620_8).f0) ((rd_T45 t468 x620_8).f1) t471 t486 true _ A299.out).mono ?_); rintro e w310 ⟨rfl, hb⟩; refine ⟨_, rfl, ?_⟩; have n0_ := Aside0.mk (Kd.R_below (by (with_reducible repeat (first | apply Kd.R_alloc | apply Kd.R_drewN | apply Kd.R_drew)); exact HO_53.out) hb); have n1_ := Aside0.mk (Kd.R_below (by (with_reducible repeat (first | apply Kd.R_alloc | apply Kd.R_drewN | apply Kd.R_drew)); exact HO_618.out) hb); have n2_ := Aside0.mk (blk_below (g := gb404) (o := .cells #[.int .i64 t399, .int .i64 t400] 45 (0, 0)) bk_ hb); have n3_ := Aside0.mk (blk_below (g := gb405) (o := .cells #[.int .i64 t401, .int .i64 t402] 45 (0, 0)) bk_ hb); have n4_ := Aside0.mk (blk_below (g := gb483) (o := .cells #[.int .i64 ((rd_T45 t468 x620_8).f0), .int .i64 ((rd_T45 t468 x620_8).f1)] 45 (0, 0)) bk_ hb); have n5_ := Aside0.mk (below_step bw_ hb); clear HO_53; clear HO_618; clear BK404; clear BK405; clear BK483; clear HB; have HO_53 := n0_; have HO_618 := n1_; have BK404 := n2_; have BK405 := n3_; have BK483 := n4_; have HB := n5_; clear n0_ n1_ n2_ n3_ n4_ n5_; (try clear hb); (try clear hb2); (try clear hk); (try clear hi)))
                                go_roundg kj286
                                case measure => have := HJ15.out; have := HJ85.out; have := HJ122.out; have := HJ132.out; have := HJ179.out; have := HJ249.out; have := HJ274.out; have := HK8.out; have := HJ286.out; omega
                                case rel => exact ⟨(t486), (wrap64 (x620_8 + 1)), (by first | rfl | (simp; done) | (simp [*]; done)), (by first | rfl | (simp; done) | (simp [*]; done)), H', ⟨by have := HJ15.out; have := HJ85.out; have := HJ122.out; have := HJ132.out; have := HJ179.out; have := HJ249.out; have := HJ274.out; have := HK8.out; have := HJ286.out; omega⟩, ⟨by (with_reducible repeat (first | apply Kd.R_alloc | apply Kd.R_drewN | apply Kd.R_drew)); exact Kd.R_mono HO_53.out (fun _ hk => ⟨hk.1, hk.2.1⟩)⟩, ⟨by (with_reducible repeat (first | apply Kd.R_alloc | apply Kd.R_drewN | apply Kd.R_drew)); exact Kd.R_mono HO_618.out (fun _ hk => ⟨hk.1, hk.2.1⟩)⟩, ⟨bk_⟩, ⟨bk_⟩, ⟨bw_⟩⟩
                              ·
                               replace c300 := Bool.eq_false_iff.mpr c300
                               subst c300
                               rw [if_neg (show ¬ (false = true) by decide)] at H
                               exact absurd ((Option.some.inj H).trans HRT.out) (by decide)
                             ·
                              replace c298 := Bool.eq_false_iff.mpr c298
                              subst c298
                              rw [if_neg (show ¬ (false = true) by decide)] at H
                              have H' := Aside0.mk H
                              clear H
                              go_wp2
                              go_roundg kj286
                              case measure => have := HJ15.out; have := HJ85.out; have := HJ122.out; have := HJ132.out; have := HJ179.out; have := HJ249.out; have := HJ274.out; have := HK8.out; have := HJ286.out; omega
                              case rel => exact ⟨(x62_8), (wrap64 (x620_8 + 1)), (by first | rfl | (simp; done) | (simp [*]; done)), (by first | rfl | (simp; done) | (simp [*]; done)), H', ⟨by have := HJ15.out; have := HJ85.out; have := HJ122.out; have := HJ132.out; have := HJ179.out; have := HJ249.out; have := HJ274.out; have := HK8.out; have := HJ286.out; omega⟩, ⟨by (with_reducible repeat (first | apply Kd.R_alloc | apply Kd.R_drewN | apply Kd.R_drew)); exact Kd.R_mono HO_53.out (fun _ hk => ⟨hk.1, hk.2.1⟩)⟩, ⟨by (with_reducible repeat (first | apply Kd.R_alloc | apply Kd.R_drewN | apply Kd.R_drew)); exact Kd.R_mono HO_618.out (fun _ hk => ⟨hk.1, hk.2.1⟩)⟩, ⟨bk_⟩, ⟨bk_⟩, ⟨bw_⟩⟩
                         ·
                          rw [if_neg c285] at H
                          exact absurd H (by simp)
                        ·
                         rw [if_neg c284] at H
                         exact absurd H (by simp)
                       ·
                        rw [if_neg c283] at H
                        have c283b0 : decide (x620_8 < (t468.length : Int)) = false := decide_eq_false c283
                        clear c283
                        have H' := Aside0.mk H
                        clear H
                        go_wp2
                        go_loopg [69] k8 (fun kq v69 w' => ∃ (x69_9 : Int), v69 = .int .i64 x69_9 ∧ Aside0 (laws_FnRunnersMeet.l4 kq t467 t468 t471 t472 x69_9 = some r) ∧ Aside0 (kq ≤ k8) ∧ Aside0 (Kd.R k45 45 w' w.heap.size (fun k_ => k_ ≠ gb404 ∧ k_ ≠ gb405) (.slice Ao252 t468.length co252) t468) ∧ Aside0 (w'.heap[gb404]? = some (.cells #[.int .i64 t399, .int .i64 t400] 45 (0, 0))) ∧ Aside0 (w'.heap[gb405]? = some (.cells #[.int .i64 t401, .int .i64 t402] 45 (0, 0))) ∧ Aside0 (Below w.heap.size w w'))
                        case atStart => exact ⟨(0), (by first | rfl | (simp; done) | (simp [*]; done)), H', ⟨Nat.le_refl _⟩, ⟨by (with_reducible repeat (first | apply Kd.R_alloc | apply Kd.R_drewN | apply Kd.R_drew)); exact HO_53.out⟩, ⟨bk_⟩, ⟨bk_⟩, ⟨bw_⟩⟩
                        case round => as_aux_lemma =>
                         clear H'
                         (try clear c1); (try clear c4); (try clear c85); (try clear c132); (try clear c273); (try clear c274); (try clear c282); (try clear c283); (try clear c283b0); (try clear hcz21_0); (try clear hcz21_1); (try clear hcz22_0); (try clear hcz22_1); (try clear hcz24_0); (try clear hcz24_1); (try clear hcz25_0); (try clear hcz25_1); (try clear hcz27_0); (try clear hcz27_1); (try clear hcz28_0); (try clear hcz28_1); (try clear hcz30_0); (try clear hcz30_1); (try clear hcz31_0); (try clear hcz31_1); (try clear hcz33_0); (try clear hcz33_1); (try clear hcz34_0); (try clear hcz34_1); (try clear hcz36_0); (try clear hcz36_1); (try clear hcz37_0); (try clear hcz37_1); (try clear hcz39_0); (try clear hcz39_1); (try clear hcz40_0); (try clear hcz40_1); (try clear hcz42_0); (try clear hcz42_1); (try clear hcz43_0); (try clear hcz43_1); (try clear hcz45_0); (try clear hcz45_1); (try clear hcz46_0); (try clear hcz46_1); (try clear hcz48_0); (try clear hcz48_1); (try clear hcz49_0); (try clear hcz49_1); (try clear hfz21_0); (try clear hfz21_1); (try clear hfz22_0); (try clear hfz22_1); (try clear hfz24_0); (try clear hfz24_1); (try clear hfz25_0); (try clear hfz25_1); (try clear hfz27_0); (try clear hfz27_1); (try clear hfz28_0); (try clear hfz28_1); (try clear hfz30_0); (try clear hfz30_1); (try clear hfz31_0); (try clear hfz31_1); (try clear hfz33_0); (try clear hfz33_1); (try clear hfz34_0); (try clear hfz34_1); (try clear hfz36_0); (try clear hfz36_1); (try clear hfz37_0); (try clear hfz37_1); (try clear hfz39_0); (try clear hfz39_1); (try clear hfz40_0); (try clear hfz40_1); (try clear hfz42_0); (try clear hfz42_1); (try clear hfz43_0); (try clear hfz43_1); (try clear hfz45_0); (try clear hfz45_1); (try clear hfz46_0); (try clear hfz46_1); (try clear hfz48_0); (try clear hfz48_1); (try clear hfz49_0); (try clear hfz49_1)
                         obtain ⟨x69_9, rfl, HA, HK9, HO_53, BK404, BK405, HB⟩ := hrel
                         cases gk with
                         | zero => exact absurd HA.out (by simp [laws_FnRunnersMeet.l4])
                         | succ k9 =>
                          have H := HA.out
                          clear HA
                          simp only [laws_FnRunnersMeet.l4] at H
                          have HC311 := Aside0.mk H
                          clear H
                          go_upto_region 84 with (fail)
                          go_cut [665] from 660 to 665 (fun v665 wc => ∃ (kq : Nat) (x665_310 : Bool), v665 = .bool x665_310 ∧ Aside0 (laws_FnRunnersMeet.j17 kq t467 t468 t471 t472 x69_9 x665_310 = some r) ∧ Aside0 (kq ≤ k9) ∧ Aside0 (Kd.R k45 45 wc w.heap.size (fun k_ => k_ ≠ gb404 ∧ k_ ≠ gb405) (.slice Ao252 t468.length co252) t468) ∧ Aside0 (wc.heap[gb404]? = some (.cells #[.int .i64 t399, .int .i64 t400] 45 (0, 0))) ∧ Aside0 (wc.heap[gb405]? = some (.cells #[.int .i64 t401, .int .i64 t402] 45 (0, 0))) ∧ Aside0 (Below w.heap.size w wc))
                          case first => as_aux_lemma =>
                           have H := HC311.out
                           clear HC311
                           by_cases c312 : t472 = true
                           ·
                            subst c312
                            rw [if_pos rfl] at H
                            have H' := Aside0.mk H
                            clear H
                            go_wp2
                            go_meet
                            case rel => exact ⟨_, (decide (x69_9 < t471)), (by first | rfl | (simp; done) | (simp [*]; done)), H', ⟨by have := HJ15.out; have := HJ85.out; have := HJ122.out; have := HJ132.out; have := HJ179.out; have := HJ249.out; have := HJ274.out; have := HK8.out; have := HK9.out; first | omega | exact Nat.le_refl _⟩, ⟨by (with_reducible repeat (first | apply Kd.R_alloc | apply Kd.R_drewN | apply Kd.R_drew)); exact HO_53.out⟩, ⟨bk_⟩, ⟨bk_⟩, ⟨bw_⟩⟩
                           ·
                            replace c312 := Bool.eq_false_iff.mpr c312
                            subst c312
                            rw [if_neg (show ¬ (false = true) by decide)] at H
                            have H' := Aside0.mk H
                            clear H
                            go_wp2
                            go_meet
                            case rel => exact ⟨_, (false), (by first | rfl | (simp; done) | (simp [*]; done)), H', ⟨by have := HJ15.out; have := HJ85.out; have := HJ122.out; have := HJ132.out; have := HJ179.out; have := HJ249.out; have := HJ274.out; have := HK8.out; have := HK9.out; first | omega | exact Nat.le_refl _⟩, ⟨by (with_reducible repeat (first | apply Kd.R_alloc | apply Kd.R_drewN | apply Kd.R_drew)); exact HO_53.out⟩, ⟨bk_⟩, ⟨bk_⟩, ⟨bw_⟩⟩
                          case rest => as_aux_lemma =>
                           clear HC311
                           (try clear c1); (try clear c4); (try clear c85); (try clear c132); (try clear c273); (try clear c274); (try clear c282); (try clear c283); (try clear c283b0); (try clear hcz21_0); (try clear hcz21_1); (try clear hcz22_0); (try clear hcz22_1); (try clear hcz24_0); (try clear hcz24_1); (try clear hcz25_0); (try clear hcz25_1); (try clear hcz27_0); (try clear hcz27_1); (try clear hcz28_0); (try clear hcz28_1); (try clear hcz30_0); (try clear hcz30_1); (try clear hcz31_0); (try clear hcz31_1); (try clear hcz33_0); (try clear hcz33_1); (try clear hcz34_0); (try clear hcz34_1); (try clear hcz36_0); (try clear hcz36_1); (try clear hcz37_0); (try clear hcz37_1); (try clear hcz39_0); (try clear hcz39_1); (try clear hcz40_0); (try clear hcz40_1); (try clear hcz42_0); (try clear hcz42_1); (try clear hcz43_0); (try clear hcz43_1); (try clear hcz45_0); (try clear hcz45_1); (try clear hcz46_0); (try clear hcz46_1); (try clear hcz48_0); (try clear hcz48_1); (try clear hcz49_0); (try clear hcz49_1); (try clear hfz21_0); (try clear hfz21_1); (try clear hfz22_0); (try clear hfz22_1); (try clear hfz24_0); (try clear hfz24_1); (try clear hfz25_0); (try clear hfz25_1); (try clear hfz27_0); (try clear hfz27_1); (try clear hfz28_0); (try clear hfz28_1); (try clear hfz30_0); (try clear hfz30_1); (try clear hfz31_0); (try clear hfz31_1); (try clear hfz33_0); (try clear hfz33_1); (try clear hfz34_0); (try clear hfz34_1); (try clear hfz36_0); (try clear hfz36_1); (try clear hfz37_0); (try clear hfz37_1); (try clear hfz39_0); (try clear hfz39_1); (try clear hfz40_0); (try clear hfz40_1); (try clear hfz42_0); (try clear hfz42_1); (try clear hfz43_0); (try clear hfz43_1); (try clear hfz45_0); (try clear hfz45_1); (try clear hfz46_0); (try clear hfz46_1); (try clear hfz48_0); (try clear hfz48_1); (try clear hfz49_0); (try clear hfz49_1)
                           obtain ⟨kq, x665_310, rfl, HA, HJ310, HO_53, BK404, BK405, HB⟩ := hcut
                           cases kq with
                           | zero => exact absurd HA.out (by simp [laws_FnRunnersMeet.j17])
                           | succ kj310 =>
                            have H := HA.out
                            clear HA
                            simp only [laws_FnRunnersMeet.j17] at H
                            by_cases c313 : x665_310 = true
                            ·
                             subst c313
                             rw [if_pos rfl] at H
                             have H' := Aside0.mk H
                             clear H
                             go_wp2
                             go_loopg [70, 670] kj310 (fun kq v70 v670 w' => ∃ (x70_11 : Bool) (x670_11 : Int), v70 = .bool x70_11 ∧ v670 = .int .i64 x670_11 ∧ Aside0 (laws_FnRunnersMeet.l5 kq t467 t468 t471 t472 x69_9 x70_11 t468 (t468.length : Int) x670_11 = some r) ∧ Aside0 (kq ≤ kj310) ∧ Aside0 (Kd.R k45 45 w' w.heap.size (fun k_ => k_ ≠ gb404 ∧ k_ ≠ gb405) (.slice Ao252 t468.length co252) t468) ∧ Aside0 (Kd.R k45 45 w' w.heap.size (fun k_ => k_ ≠ gb404 ∧ k_ ≠ gb405) (.slice Ao252 t468.length co252) t468) ∧ Aside0 (w'.heap[gb404]? = some (.cells #[.int .i64 t399, .int .i64 t400] 45 (0, 0))) ∧ Aside0 (w'.heap[gb405]? = some (.cells #[.int .i64 t401, .int .i64 t402] 45 (0, 0))) ∧ Aside0 (Below w.heap.size w w'))
                             case atStart => exact ⟨(false), (0), (by first | rfl | (simp; done) | (simp [*]; done)), (by first | rfl | (simp; done) | (simp [*]; done)), H', ⟨Nat.le_refl _⟩, ⟨by (with_reducible repeat (first | apply Kd.R_alloc | apply Kd.R_drewN | apply Kd.R_drew)); exact HO_53.out⟩, ⟨by (with_reducible repeat (first | apply Kd.R_alloc | apply Kd.R_drewN | apply Kd.R_drew)); exact HO_53.out⟩, ⟨bk_⟩, ⟨bk_⟩, ⟨bw_⟩⟩
                             case round => as_aux_lemma =>
                              clear H'
                              (try clear c1); (try clear c4); (try clear c85); (try clear c132); (try clear c273); (try clear c274); (try clear c282); (try clear c283); (try clear c283b0); (try clear c313); (try clear hcz21_0); (try clear hcz21_1); (try clear hcz22_0); (try clear hcz22_1); (try clear hcz24_0); (try clear hcz24_1); (try clear hcz25_0); (try clear hcz25_1); (try clear hcz27_0); (try clear hcz27_1); (try clear hcz28_0); (try clear hcz28_1); (try clear hcz30_0); (try clear hcz30_1); (try clear hcz31_0); (try clear hcz31_1); (try clear hcz33_0); (try clear hcz33_1); (try clear hcz34_0); (try clear hcz34_1); (try clear hcz36_0); (try clear hcz36_1); (try clear hcz37_0); (try clear hcz37_1); (try clear hcz39_0); (try clear hcz39_1); (try clear hcz40_0); (try clear hcz40_1); (try clear hcz42_0); (try clear hcz42_1); (try clear hcz43_0); (try clear hcz43_1); (try clear hcz45_0); (try clear hcz45_1); (try clear hcz46_0); (try clear hcz46_1); (try clear hcz48_0); (try clear hcz48_1); (try clear hcz49_0); (try clear hcz49_1); (try clear hfz21_0); (try clear hfz21_1); (try clear hfz22_0); (try clear hfz22_1); (try clear hfz24_0); (try clear hfz24_1); (try clear hfz25_0); (try clear hfz25_1); (try clear hfz27_0); (try clear hfz27_1); (try clear hfz28_0); (try clear hfz28_1); (try clear hfz30_0); (try clear hfz30_1); (try clear hfz31_0); (try clear hfz31_1); (try clear hfz33_0); (try clear hfz33_1); (try clear hfz34_0); (try clear hfz34_1); (try clear hfz36_0); (try clear hfz36_1); (try clear hfz37_0); (try clear hfz37_1); (try clear hfz39_0); (try clear hfz39_1); (try clear hfz40_0); (try clear hfz40_1); (try clear hfz42_0); (try clear hfz42_1); (try clear hfz43_0); (try clear hfz43_1); (try clear hfz45_0); (try clear hfz45_1); (try clear hfz46_0); (try clear hfz46_1); (try clear hfz48_0); (try clear hfz48_1); (try clear hfz49_0); (try clear hfz49_1)
                              obtain ⟨x70_11, x670_11, rfl, rfl, HA, HK11, HO_53, HO_668, BK404, BK405, HB⟩ := hrel
                              cases gk with
                              | zero => exact absurd HA.out (by simp [laws_FnRunnersMeet.l5])
                              | succ k11 =>
                               have H := HA.out
                               clear HA
                               simp only [laws_FnRunnersMeet.l5] at H
                               by_cases c314 : x670_11 < (t468.length : Int)
                               ·
                                rw [if_pos c314] at H
                                have c314b0 : decide (x670_11 < (t468.length : Int)) = true := decide_eq_true c314
                                clear c314
                                by_cases c315 : 0 ≤ x670_11
                                ·
                                 rw [if_pos c315] at H
                                 have c315b0 : decide (0 ≤ x670_11) = true := decide_eq_true c315
                                 clear c315
                                 by_cases c316 : x670_11 < (t468.length : Int)
                                 ·
                                  rw [if_pos c316] at H
                                  have c316b0 : decide (x670_11 < (t468.length : Int)) = true := decide_eq_true c316
                                  clear c316
                                  replace H := Option.bind_eq_some_iff.mp H
                                  obtain ⟨⟨t490, t491⟩, A3170, H⟩ := H
                                  (try dsimp only at H)
                                  have A317 := Aside0.mk A3170
                                  clear A3170
                                  by_cases c318 : 0 < (t468.length : Int)
                                  ·
                                   rw [if_pos c318] at H
                                   have c318b0 : decide (0 < (t468.length : Int)) = true := decide_eq_true c318
                                   have c318b1 : decide (0 < t468.length) = true := decide_eq_true (by omega)
                                   clear c318
                                   replace H := Option.bind_eq_some_iff.mp H
                                   obtain ⟨⟨t493, t494⟩, A3190, H⟩ := H
                                   (try dsimp only at H)
                                   have A319 := Aside0.mk A3190
                                   clear A3190
                                   by_cases c320 : t491 = true
                                   ·
                                    subst c320
                                    rw [if_pos rfl] at H
                                    by_cases c321 : t494 = true
                                    ·
                                     subst c321
                                     rw [if_pos rfl] at H
                                     by_cases c322 : x70_11 = true
                                     ·
                                      subst c322
                                      rw [if_pos rfl] at H
                                      have H' := Aside0.mk H
                                      clear H
                                      have p488 : 0 ≤ (x670_11 : Int) := of_decide_eq_true (by first | (with_reducible assumption) | assumption)
                                      have q488 : x670_11 < (t468.length : Int) := of_decide_eq_true (by first | (with_reducible assumption) | assumption)
                                      obtain ⟨ad488, e488, hx488_0, hx488_1⟩ := at_T45 (Kd.R_reads' HO_668.out).2.2 x670_11 p488 q488
                                      cases e488
                                      replace p488 := eq_true p488
                                      replace q488 := eq_true q488
                                      go_wp2_with (first | ((with_reducible refine gate_dst (N := 72) rfl ?_); (try (refine gate_guard (by rfl) ?_; dsimp only)); refine box_event ?hg (N := 72) ?hd (cs := #[.int .i64 0, .int .i64 0]) (t := 45) ?hr ?_; (case hd => rfl); (case hg => rfl); (case hr => first | (go_simp; done) | (go_simp; rfl)); intro gb489 hg w323 hbox hb; have n0_ := Aside0.mk (Kd.R_below (Kd.R_elderB (by (with_reducible repeat (first | apply Kd.R_alloc | apply Kd.R_drewN | apply Kd.R_drew)); exact HO_53.out) gb489 (Nat.le_of_eq hg.symm)) hb); have n1_ := Aside0.mk (Kd.R_below (Kd.R_elderB (by (with_reducible repeat (first | apply Kd.R_alloc | apply Kd.R_drewN | apply Kd.R_drew)); exact HO_668.out) gb489 (Nat.le_of_eq hg.symm)) hb); have n2_ := Aside0.mk (blk_below (g := gb404) (o := .cells #[.int .i64 t399, .int .i64 t400] 45 (0, 0)) bk_ hb); have n3_ := Aside0.mk (blk_below (g := gb405) (o := .cells #[.int .i64 t401, .int .i64 t402] 45 (0, 0)) bk_ hb); have n4_ := Aside0.mk (below_step bw_ hb); have n5_ := Aside0.mk (hbox); have n6_ := Aside0.mk ((by rw [hg]; exact (below_size bw_) : w.heap.size ≤ gb489)); have n7_ := Aside0.mk ((by rw [hg]; exact (below_size bw_) : w.heap.size ≤ gb489)); have n8_ := Aside0.mk ((by rw [hg]; exact Nat.ne_of_lt (blk_lt (g := gb404) (o := .cells #[.int .i64 t399, .int .i64 t400] 45 (0, 0)) bk_) : gb404 ≠ gb489)); have n9_ := Aside0.mk ((by rw [hg]; exact Nat.ne_of_gt (blk_lt (g := gb404) (o := .cells #[.int .i64 t399, .int .i64 t400] 45 (0, 0)) bk_) : gb489 ≠ gb404)); have n10_ := Aside0.mk ((by rw [hg]; exact Nat.ne_of_lt (blk_lt (g := gb405) (o := .cells #[.int .i64 t401, .int .i64 t402] 45 (0, 0)) bk_) : gb405 ≠ gb489)); have n11_ := Aside0.mk ((by rw [hg]; exact Nat.ne_of_gt (blk_lt (g := gb405) (o := .cells #[.int .i64 t401, .int .i64 t402] 45 (0, 0)) bk_) : gb489 ≠ gb405)); clear HO_53; clear HO_668; clear BK404; clear BK405; clear HB; have HO_53 := n0_; have HO_668 := n1_; have BK404 := n2_; have BK405 := n3_; have HB := n4_; have BK489 := n5_; have GW489 := n6_; have GE489 := n7_; have NB404_489 := n8_; have NB489_404 := n9_; have NB405_489 := n10_; have NB489_405 := n11_; clear n0_ n1_ n2_ n3_ n4_ n5_ n6_ n7_ n8_ n9_ n10_ n11_; clear hb hbox hg; have hnb324 := NB489_404.out; have hnc324 := NB404_489.out; have hnb325 := NB489_405.out; have hnc325 := NB405_489.out; have hcz326_0 : w323.cell? ⟨gb489, 0, none⟩ = some (.int .i64 0) := (blk_cell BK489.out 0).trans rfl; have hcz326_1 : w323.cell? ⟨gb489, 1, none⟩ = some (.int .i64 0) := (blk_cell BK489.out 1).trans rfl; have hfz326_0 := blk_frozen BK489.out 0; have hfz326_1 := blk_frozen BK489.out 1) | ((with_reducible refine gate_callee (f := 34) rfl ?_); refine goesL_ (some 678) rfl rfl Try.func34 (by kernel_rfl) rfl #[.int .i64 t467, .agg #[.int .i64 ((rd_T45 t468 x670_11).f0), .int .i64 ((rd_T45 t468 x670_11).f1)], .int .i64 x69_9] rfl (by (try simp only [List.map_toArray, List.map_cons, List.map_nil]); first | done | rfl | (simp only [List.length_drop, List.length_take]; rfl)) ?_; (with_reducible refine (impl_PlaceOnTrack.calls t467 ((rd_T45 t468 x670_11).f0) ((rd_T45 t468 x670_11).f1) x69_9 t490 true _ A317.out).mono ?_); rintro e w327 ⟨rfl, hb⟩; refine ⟨_, rfl, ?_⟩; have n0_ := Aside0.mk (Kd.R_below (by (with_reducible repeat (first | apply Kd.R_alloc | apply Kd.R_drewN | apply Kd.R_drew)); exact (Kd.R_mono (Kd.R_far (p := ⟨gb489, 1, none⟩) (Kd.R_far (p := ⟨gb489, 0, none⟩) (Kd.R_mono HO_53.out (fun k_ hk => (⟨hk, hk.2⟩ : _ ∧ k_ ≠ gb489))) (fun _ hk => hk.2) (.int .i64 ((rd_T45 t468 x670_11).f0))) (fun _ hk => hk.2) (.int .i64 ((rd_T45 t468 x670_11).f1))) (fun _ h_ => h_.1))) hb); have n1_ := Aside0.mk (Kd.R_below (by (with_reducible repeat (first | apply Kd.R_alloc | apply Kd.R_drewN | apply Kd.R_drew)); exact (Kd.R_mono (Kd.R_far (p := ⟨gb489, 1, none⟩) (Kd.R_far (p := ⟨gb489, 0, none⟩) (Kd.R_mono HO_668.out (fun k_ hk => (⟨hk, hk.2⟩ : _ ∧ k_ ≠ gb489))) (fun _ hk => hk.2) (.int .i64 ((rd_T45 t468 x670_11).f0))) (fun _ hk => hk.2) (.int .i64 ((rd_T45 t468 x670_11).f1))) (fun _ h_ => h_.1))) hb); have n2_ := Aside0.mk (blk_below (g := gb404) (o := .cells #[.int .i64 t399, .int .i64 t400] 45 (0, 0)) (by (with_reducible repeat (first | refine blk_drewN ?_ _ | refine blk_drew ?_ | refine blk_alloc ?_ _)); refine blk_far ?_ NB404_489.out _; (with_reducible repeat (first | refine blk_drewN ?_ _ | refine blk_drew ?_ | refine blk_alloc ?_ _)); refine blk_far ?_ NB404_489.out _; (with_reducible repeat (first | refine blk_drewN ?_ _ | refine blk_drew ?_ | refine blk_alloc ?_ _)); exact BK404.out) hb); have n3_ := Aside0.mk (blk_below (g := gb405) (o := .cells #[.int .i64 t401, .int .i64 t402] 45 (0, 0)) (by (with_reducible repeat (first | refine blk_drewN ?_ _ | refine blk_drew ?_ | refine blk_alloc ?_ _)); refine blk_far ?_ NB405_489.out _; (with_reducible repeat (first | refine blk_drewN ?_ _ | refine blk_drew ?_ | refine blk_alloc ?_ _)); refine blk_far ?_ NB405_489.out _; (with_reducible repeat (first | refine blk_drewN ?_ _ | refine blk_drew ?_ | refine blk_alloc ?_ _)); exact BK405.out) hb); have n4_ := Aside0.mk (blk_below (g := gb489) (o := .cells #[.int .i64 ((rd_T45 t468 x670_11).f0), .int .i64 ((rd_T45 t468 x670_11).f1)] 45 (0, 0)) (by (with_reducible repeat (first | refine blk_drewN ?_ _ | refine blk_drew ?_ | refine blk_alloc ?_ _)); refine blk_put (cs := #[.int .i64 ((rd_T45 t468 x670_11).f0), .int .i64 0]) ?_ 1 _ rfl; (with_reducible repeat (first | refine blk_drewN ?_ _ | refine blk_drew ?_ | refine blk_alloc ?_ _)); refine blk_put (cs := #[.int .i64 0, .int .i64 0]) ?_ 0 _ rfl; (with_reducible repeat (first | refine blk_drewN ?_ _ | refine blk_drew ?_ | refine blk_alloc ?_ _)); exact BK489.out) hb); have n5_ := Aside0.mk (below_step bw_ hb); clear HO_53; clear HO_668; clear BK404; clear BK405; clear BK489; clear HB; have HO_53 := n0_; have HO_668 := n1_; have BK404 := n2_; have BK405 := n3_; have BK489 := n4_; have HB := n5_; clear n0_ n1_ n2_ n3_ n4_ n5_; (try clear hb); (try clear hb2); (try clear hk); (try clear hi); have p492 : 0 ≤ (0 : Int) := (by omega); have q492 : 0 < (t468.length : Int) := of_decide_eq_true (by first | (with_reducible assumption) | assumption); obtain ⟨ad492, e492, hx492_0, hx492_1⟩ := at_T45 (Kd.R_reads' HO_53.out).2.2 0 p492 q492; obtain rfl : ad488 = ad492 := (by injection e492); have qi492 : (0 < t468.length) = True := eq_true (by omega); (try rw [show ((0 : Int)).toNat = 0 from rfl] at hx492_0); (try rw [show 0 * 2 = 0 from rfl] at hx492_0); (try rw [Addr.add_zero'] at hx492_0); (try rw [show ((0 : Int)).toNat = 0 from rfl] at hx492_1); (try rw [show 0 * 2 = 0 from rfl] at hx492_1); (try rw [Addr.add_zero'] at hx492_1); replace p492 := eq_true p492; replace q492 := eq_true q492) | ((with_reducible refine gate_callee (f := 34) rfl ?_); refine goesL_ (some 687) rfl rfl Try.func34 (by kernel_rfl) rfl #[.int .i64 t467, .agg #[.int .i64 ((rd_T45 t468 0).f0), .int .i64 ((rd_T45 t468 0).f1)], .int .i64 x69_9] rfl (by (try simp only [List.map_toArray, List.map_cons, List.map_nil]); first | done | rfl | (simp only [List.length_drop, List.length_take]; rfl)) ?_; (with_reducible refine (impl_PlaceOnTrack.calls t467 ((rd_T45 t468 0).f0) ((rd_T45 t468 0).f1) x69_9 t493 true _ A319.out).mono ?_); rintro e w328 ⟨rfl, hb⟩; refine ⟨_, rfl, ?_⟩; have n0_ := Aside0.mk (Kd.R_below (by (with_reducible repeat (first | apply Kd.R_alloc | apply Kd.R_drewN | apply Kd.R_drew)); exact HO_53.out) hb); have n1_ := Aside0.mk (Kd.R_below (by (with_reducible repeat (first | apply Kd.R_alloc | apply Kd.R_drewN | apply Kd.R_drew)); exact HO_668.out) hb); have n2_ := Aside0.mk (blk_below (g := gb404) (o := .cells #[.int .i64 t399, .int .i64 t400] 45 (0, 0)) bk_ hb); have n3_ := Aside0.mk (blk_below (g := gb405) (o := .cells #[.int .i64 t401, .int .i64 t402] 45 (0, 0)) bk_ hb); have n4_ := Aside0.mk (blk_below (g := gb489) (o := .cells #[.int .i64 ((rd_T45 t468 x670_11).f0), .int .i64 ((rd_T45 t468 x670_11).f1)] 45 (0, 0)) bk_ hb); have n5_ := Aside0.mk (below_step bw_ hb); clear HO_53; clear HO_668; clear BK404; clear BK405; clear BK489; clear HB; have HO_53 := n0_; have HO_668 := n1_; have BK404 := n2_; have BK405 := n3_; have BK489 := n4_; have HB := n5_; clear n0_ n1_ n2_ n3_ n4_ n5_; (try clear hb); (try clear hb2); (try clear hk); (try clear hi)))
                                      go_roundg k11
                                      case measure => have := HJ15.out; have := HJ85.out; have := HJ122.out; have := HJ132.out; have := HJ179.out; have := HJ249.out; have := HJ274.out; have := HK8.out; have := HK9.out; have := HJ310.out; have := HK11.out; omega
                                      case rel => exact ⟨(true), (wrap64 (x670_11 + 1)), (by first | rfl | (simp; done) | (simp [*]; done)), (by first | rfl | (simp; done) | (simp [*]; done)), H', ⟨by have := HJ15.out; have := HJ85.out; have := HJ122.out; have := HJ132.out; have := HJ179.out; have := HJ249.out; have := HJ274.out; have := HK8.out; have := HK9.out; have := HJ310.out; have := HK11.out; omega⟩, ⟨by (with_reducible repeat (first | apply Kd.R_alloc | apply Kd.R_drewN | apply Kd.R_drew)); exact Kd.R_mono HO_53.out (fun _ hk => ⟨hk.1.1, hk.1.2⟩)⟩, ⟨by (with_reducible repeat (first | apply Kd.R_alloc | apply Kd.R_drewN | apply Kd.R_drew)); exact Kd.R_mono HO_668.out (fun _ hk => ⟨hk.1.1, hk.1.2⟩)⟩, ⟨bk_⟩, ⟨bk_⟩, ⟨bw_⟩⟩
                                     ·
                                      replace c322 := Bool.eq_false_iff.mpr c322
                                      subst c322
                                      rw [if_neg (show ¬ (false = true) by decide)] at H
                                      have H' := Aside0.mk H
                                      clear H
                                      have p488 : 0 ≤ (x670_11 : Int) := of_decide_eq_true (by first | (with_reducible assumption) | assumption)
                                      have q488 : x670_11 < (t468.length : Int) := of_decide_eq_true (by first | (with_reducible assumption) | assumption)
                                      obtain ⟨ad488, e488, hx488_0, hx488_1⟩ := at_T45 (Kd.R_reads' HO_668.out).2.2 x670_11 p488 q488
                                      cases e488
                                      replace p488 := eq_true p488
                                      replace q488 := eq_true q488
                                      go_wp2_with (first | ((with_reducible refine gate_dst (N := 72) rfl ?_); (try (refine gate_guard (by rfl) ?_; dsimp only)); refine box_event ?hg (N := 72) ?hd (cs := #[.int .i64 0, .int .i64 0]) (t := 45) ?hr ?_; (case hd => rfl); (case hg => rfl); (case hr => first | (go_simp; done) | (go_simp; rfl)); intro gb489 hg w329 hbox hb; have n0_ := Aside0.mk (Kd.R_below (Kd.R_elderB (by (with_reducible repeat (first | apply Kd.R_alloc | apply Kd.R_drewN | apply Kd.R_drew)); exact HO_53.out) gb489 (Nat.le_of_eq hg.symm)) hb); have n1_ := Aside0.mk (Kd.R_below (Kd.R_elderB (by (with_reducible repeat (first | apply Kd.R_alloc | apply Kd.R_drewN | apply Kd.R_drew)); exact HO_668.out) gb489 (Nat.le_of_eq hg.symm)) hb); have n2_ := Aside0.mk (blk_below (g := gb404) (o := .cells #[.int .i64 t399, .int .i64 t400] 45 (0, 0)) bk_ hb); have n3_ := Aside0.mk (blk_below (g := gb405) (o := .cells #[.int .i64 t401, .int .i64 t402] 45 (0, 0)) bk_ hb); have n4_ := Aside0.mk (below_step bw_ hb); have n5_ := Aside0.mk (hbox); have n6_ := Aside0.mk ((by rw [hg]; exact (below_size bw_) : w.heap.size ≤ gb489)); have n7_ := Aside0.mk ((by rw [hg]; exact (below_size bw_) : w.heap.size ≤ gb489)); have n8_ := Aside0.mk ((by rw [hg]; exact Nat.ne_of_lt (blk_lt (g := gb404) (o := .cells #[.int .i64 t399, .int .i64 t400] 45 (0, 0)) bk_) : gb404 ≠ gb489)); have n9_ := Aside0.mk ((by rw [hg]; exact Nat.ne_of_gt (blk_lt (g := gb404) (o := .cells #[.int .i64 t399, .int .i64 t400] 45 (0, 0)) bk_) : gb489 ≠ gb404)); have n10_ := Aside0.mk ((by rw [hg]; exact Nat.ne_of_lt (blk_lt (g := gb405) (o := .cells #[.int .i64 t401, .int .i64 t402] 45 (0, 0)) bk_) : gb405 ≠ gb489)); have n11_ := Aside0.mk ((by rw [hg]; exact Nat.ne_of_gt (blk_lt (g := gb405) (o := .cells #[.int .i64 t401, .int .i64 t402] 45 (0, 0)) bk_) : gb489 ≠ gb405)); clear HO_53; clear HO_668; clear BK404; clear BK405; clear HB; have HO_53 := n0_; have HO_668 := n1_; have BK404 := n2_; have BK405 := n3_; have HB := n4_; have BK489 := n5_; have GW489 := n6_; have GE489 := n7_; have NB404_489 := n8_; have NB489_404 := n9_; have NB405_489 := n10_; have NB489_405 := n11_; clear n0_ n1_ n2_ n3_ n4_ n5_ n6_ n7_ n8_ n9_ n10_ n11_; clear hb hbox hg; have hnb330 := NB489_404.out; have hnc330 := NB404_489.out; have hnb331 := NB489_405.out; have hnc331 := NB405_489.out; have hcz332_0 : w329.cell? ⟨gb489, 0, none⟩ = some (.int .i64 0) := (blk_cell BK489.out 0).trans rfl; have hcz332_1 : w329.cell? ⟨gb489, 1, none⟩ = some (.int .i64 0) := (blk_cell BK489.out 1).trans rfl; have hfz332_0 := blk_frozen BK489.out 0; have hfz332_1 := blk_frozen BK489.out 1) | ((with_reducible refine gate_callee (f := 34) rfl ?_); refine goesL_ (some 678) rfl rfl Try.func34 (by kernel_rfl) rfl #[.int .i64 t467, .agg #[.int .i64 ((rd_T45 t468 x670_11).f0), .int .i64 ((rd_T45 t468 x670_11).f1)], .int .i64 x69_9] rfl (by (try simp only [List.map_toArray, List.map_cons, List.map_nil]); first | done | rfl | (simp only [List.length_drop, List.length_take]; rfl)) ?_; (with_reducible refine (impl_PlaceOnTrack.calls t467 ((rd_T45 t468 x670_11).f0) ((rd_T45 t468 x670_11).f1) x69_9 t490 true _ A317.out).mono ?_); rintro e w333 ⟨rfl, hb⟩; refine ⟨_, rfl, ?_⟩; have n0_ := Aside0.mk (Kd.R_below (by (with_reducible repeat (first | apply Kd.R_alloc | apply Kd.R_drewN | apply Kd.R_drew)); exact (Kd.R_mono (Kd.R_far (p := ⟨gb489, 1, none⟩) (Kd.R_far (p := ⟨gb489, 0, none⟩) (Kd.R_mono HO_53.out (fun k_ hk => (⟨hk, hk.2⟩ : _ ∧ k_ ≠ gb489))) (fun _ hk => hk.2) (.int .i64 ((rd_T45 t468 x670_11).f0))) (fun _ hk => hk.2) (.int .i64 ((rd_T45 t468 x670_11).f1))) (fun _ h_ => h_.1))) hb); have n1_ := Aside0.mk (Kd.R_below (by (with_reducible repeat (first | apply Kd.R_alloc | apply Kd.R_drewN | apply Kd.R_drew)); exact (Kd.R_mono (Kd.R_far (p := ⟨gb489, 1, none⟩) (Kd.R_far (p := ⟨gb489, 0, none⟩) (Kd.R_mono HO_668.out (fun k_ hk => (⟨hk, hk.2⟩ : _ ∧ k_ ≠ gb489))) (fun _ hk => hk.2) (.int .i64 ((rd_T45 t468 x670_11).f0))) (fun _ hk => hk.2) (.int .i64 ((rd_T45 t468 x670_11).f1))) (fun _ h_ => h_.1))) hb); have n2_ := Aside0.mk (blk_below (g := gb404) (o := .cells #[.int .i64 t399, .int .i64 t400] 45 (0, 0)) (by (with_reducible repeat (first | refine blk_drewN ?_ _ | refine blk_drew ?_ | refine blk_alloc ?_ _)); refine blk_far ?_ NB404_489.out _; (with_reducible repeat (first | refine blk_drewN ?_ _ | refine blk_drew ?_ | refine blk_alloc ?_ _)); refine blk_far ?_ NB404_489.out _; (with_reducible repeat (first | refine blk_drewN ?_ _ | refine blk_drew ?_ | refine blk_alloc ?_ _)); exact BK404.out) hb); have n3_ := Aside0.mk (blk_below (g := gb405) (o := .cells #[.int .i64 t401, .int .i64 t402] 45 (0, 0)) (by (with_reducible repeat (first | refine blk_drewN ?_ _ | refine blk_drew ?_ | refine blk_alloc ?_ _)); refine blk_far ?_ NB405_489.out _; (with_reducible repeat (first | refine blk_drewN ?_ _ | refine blk_drew ?_ | refine blk_alloc ?_ _)); refine blk_far ?_ NB405_489.out _; (with_reducible repeat (first | refine blk_drewN ?_ _ | refine blk_drew ?_ | refine blk_alloc ?_ _)); exact BK405.out) hb); have n4_ := Aside0.mk (blk_below (g := gb489) (o := .cells #[.int .i64 ((rd_T45 t468 x670_11).f0), .int .i64 ((rd_T45 t468 x670_11).f1)] 45 (0, 0)) (by (with_reducible repeat (first | refine blk_drewN ?_ _ | refine blk_drew ?_ | refine blk_alloc ?_ _)); refine blk_put (cs := #[.int .i64 ((rd_T45 t468 x670_11).f0), .int .i64 0]) ?_ 1 _ rfl; (with_reducible repeat (first | refine blk_drewN ?_ _ | refine blk_drew ?_ | refine blk_alloc ?_ _)); refine blk_put (cs := #[.int .i64 0, .int .i64 0]) ?_ 0 _ rfl; (with_reducible repeat (first | refine blk_drewN ?_ _ | refine blk_drew ?_ | refine blk_alloc ?_ _)); exact BK489.out) hb); have n5_ := Aside0.mk (below_step bw_ hb); clear HO_53; clear HO_668; clear BK404; clear BK405; clear BK489; clear HB; have HO_53 := n0_; have HO_668 := n1_; have BK404 := n2_; have BK405 := n3_; have BK489 := n4_; have HB := n5_; clear n0_ n1_ n2_ n3_ n4_ n5_; (try clear hb); (try clear hb2); (try clear hk); (try clear hi); have p492 : 0 ≤ (0 : Int) := (by omega); have q492 : 0 < (t468.length : Int) := of_decide_eq_true (by first | (with_reducible assumption) | assumption); obtain ⟨ad492, e492, hx492_0, hx492_1⟩ := at_T45 (Kd.R_reads' HO_53.out).2.2 0 p492 q492; obtain rfl : ad488 = ad492 := (by injection e492); have qi492 : (0 < t468.length) = True := eq_true (by omega); (try rw [show ((0 : Int)).toNat = 0 from rfl] at hx492_0); (try rw [show 0 * 2 = 0 from rfl] at hx492_0); (try rw [Addr.add_zero'] at hx492_0); (try rw [show ((0 : Int)).toNat = 0 from rfl] at hx492_1); (try rw [show 0 * 2 = 0 from rfl] at hx492_1); (try rw [Addr.add_zero'] at hx492_1); replace p492 := eq_true p492; replace q492 := eq_true q492) | ((with_reducible refine gate_callee (f := 34) rfl ?_); refine goesL_ (some 687) rfl rfl Try.func34 (by kernel_rfl) rfl #[.int .i64 t467, .agg #[.int .i64 ((rd_T45 t468 0).f0), .int .i64 ((rd_T45 t468 0).f1)], .int .i64 x69_9] rfl (by (try simp only [List.map_toArray, List.map_cons, List.map_nil]); first | done | rfl | (simp only [List.length_drop, List.length_take]; rfl)) ?_; (with_reducible refine (impl_PlaceOnTrack.calls t467 ((rd_T45 t468 0).f0) ((rd_T45 t468 0).f1) x69_9 t493 true _ A319.out).mono ?_); rintro e w334 ⟨rfl, hb⟩; refine ⟨_, rfl, ?_⟩; have n0_ := Aside0.mk (Kd.R_below (by (with_reducible repeat (first | apply Kd.R_alloc | apply Kd.R_drewN | apply Kd.R_drew)); exact HO_53.out) hb); have n1_ := Aside0.mk (Kd.R_below (by (with_reducible repeat (first | apply Kd.R_alloc | apply Kd.R_drewN | apply Kd.R_drew)); exact HO_668.out) hb); have n2_ := Aside0.mk (blk_below (g := gb404) (o := .cells #[.int .i64 t399, .int .i64 t400] 45 (0, 0)) bk_ hb); have n3_ := Aside0.mk (blk_below (g := gb405) (o := .cells #[.int .i64 t401, .int .i64 t402] 45 (0, 0)) bk_ hb); have n4_ := Aside0.mk (blk_below (g := gb489) (o := .cells #[.int .i64 ((rd_T45 t468 x670_11).f0), .int .i64 ((rd_T45 t468 x670_11).f1)] 45 (0, 0)) bk_ hb); have n5_ := Aside0.mk (below_step bw_ hb); clear HO_53; clear HO_668; clear BK404; clear BK405; clear BK489; clear HB; have HO_53 := n0_; have HO_668 := n1_; have BK404 := n2_; have BK405 := n3_; have BK489 := n4_; have HB := n5_; clear n0_ n1_ n2_ n3_ n4_ n5_; (try clear hb); (try clear hb2); (try clear hk); (try clear hi)))
                                      go_roundg k11
                                      case measure => have := HJ15.out; have := HJ85.out; have := HJ122.out; have := HJ132.out; have := HJ179.out; have := HJ249.out; have := HJ274.out; have := HK8.out; have := HK9.out; have := HJ310.out; have := HK11.out; omega
                                      case rel => exact ⟨((t490 != t493)), (wrap64 (x670_11 + 1)), (by first | rfl | (simp; done) | (simp [*]; done)), (by first | rfl | (simp; done) | (simp [*]; done)), H', ⟨by have := HJ15.out; have := HJ85.out; have := HJ122.out; have := HJ132.out; have := HJ179.out; have := HJ249.out; have := HJ274.out; have := HK8.out; have := HK9.out; have := HJ310.out; have := HK11.out; omega⟩, ⟨by (with_reducible repeat (first | apply Kd.R_alloc | apply Kd.R_drewN | apply Kd.R_drew)); exact Kd.R_mono HO_53.out (fun _ hk => ⟨hk.1.1, hk.1.2⟩)⟩, ⟨by (with_reducible repeat (first | apply Kd.R_alloc | apply Kd.R_drewN | apply Kd.R_drew)); exact Kd.R_mono HO_668.out (fun _ hk => ⟨hk.1.1, hk.1.2⟩)⟩, ⟨bk_⟩, ⟨bk_⟩, ⟨bw_⟩⟩
                                    ·
                                     replace c321 := Bool.eq_false_iff.mpr c321
                                     subst c321
                                     rw [if_neg (show ¬ (false = true) by decide)] at H
                                     exact absurd ((Option.some.inj H).trans HRT.out) (by decide)
                                   ·
                                    replace c320 := Bool.eq_false_iff.mpr c320
                                    subst c320
                                    rw [if_neg (show ¬ (false = true) by decide)] at H
                                    exact absurd ((Option.some.inj H).trans HRT.out) (by decide)
                                  ·
                                   rw [if_neg c318] at H
                                   exact absurd H (by simp)
                                 ·
                                  rw [if_neg c316] at H
                                  exact absurd H (by simp)
                                ·
                                 rw [if_neg c315] at H
                                 exact absurd H (by simp)
                               ·
                                rw [if_neg c314] at H
                                have c314b0 : decide (x670_11 < (t468.length : Int)) = false := decide_eq_false c314
                                clear c314
                                by_cases c335 : x70_11 = true
                                ·
                                 subst c335
                                 rw [if_pos rfl] at H
                                 have H' := Aside0.mk H
                                 clear H
                                 go_wp2
                                 go_roundg k11
                                 case measure => have := HJ15.out; have := HJ85.out; have := HJ122.out; have := HJ132.out; have := HJ179.out; have := HJ249.out; have := HJ274.out; have := HK8.out; have := HK9.out; have := HJ310.out; have := HK11.out; omega
                                 case rel => exact ⟨(wrap64 (x69_9 + 1)), (by first | rfl | (simp; done) | (simp [*]; done)), H', ⟨by have := HJ15.out; have := HJ85.out; have := HJ122.out; have := HJ132.out; have := HJ179.out; have := HJ249.out; have := HJ274.out; have := HK8.out; have := HK9.out; have := HJ310.out; have := HK11.out; omega⟩, ⟨by (with_reducible repeat (first | apply Kd.R_alloc | apply Kd.R_drewN | apply Kd.R_drew)); exact HO_53.out⟩, ⟨bk_⟩, ⟨bk_⟩, ⟨bw_⟩⟩
                                ·
                                 replace c335 := Bool.eq_false_iff.mpr c335
                                 subst c335
                                 rw [if_neg (show ¬ (false = true) by decide)] at H
                                 exact absurd ((Option.some.inj H).trans HRT.out) (by decide)
                            ·
                             replace c313 := Bool.eq_false_iff.mpr c313
                             subst c313
                             rw [if_neg (show ¬ (false = true) by decide)] at H
                             obtain rfl := Option.some.inj H
                             go_wp2
                             go_ret
                             exact ⟨by first | rfl | (simp [errW_none, errW_some] <;> rfl) | (simp [*, errW_none, errW_some] <;> rfl), by repeat (first | (with_reducible first | exact HB.out | apply below_alloc | apply pw_below_drewN | apply below_drew1 | refine below_set ?_ GE404.out | refine below_set ?_ GE405.out) | exact HB.out)⟩
                 ·
                  replace c274 := Bool.eq_false_iff.mpr c274
                  subst c274
                  rw [if_neg (show ¬ (false = true) by decide)] at H
                  obtain rfl := Option.some.inj H
                  go_wp2
                  go_ret
                  exact ⟨by first | rfl | (simp [errW_none, errW_some] <;> rfl) | (simp [*, errW_none, errW_some] <;> rfl), by repeat (first | (with_reducible first | exact HB.out | apply below_alloc | apply pw_below_drewN | apply below_drew1 | refine below_set ?_ GE404.out | refine below_set ?_ GE405.out) | exact HB.out)⟩

end Go.Proofs.Ytgobnhoblofglaa.PFnRunnersMeet
