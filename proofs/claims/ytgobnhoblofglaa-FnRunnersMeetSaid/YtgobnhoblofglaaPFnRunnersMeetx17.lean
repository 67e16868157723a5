-- Laid by a program of this session's (wip/gen/printp.sh): the functions that the law reaches, each with its walk.
import Derived.Test.YtgobnhoblofglaaPFnRunnersMeetx0
import Derived.Test.YtgobnhoblofglaaPFnRunnersMeetx1
import Derived.Test.YtgobnhoblofglaaPFnRunnersMeetx2
import Derived.Test.YtgobnhoblofglaaPFnRunnersMeetx3
import Derived.Test.YtgobnhoblofglaaPFnRunnersMeetx4
import Derived.Test.YtgobnhoblofglaaPFnRunnersMeetx5
import Derived.Test.YtgobnhoblofglaaPFnRunnersMeetx6
import Derived.Test.YtgobnhoblofglaaPFnRunnersMeetx7
import Derived.Test.YtgobnhoblofglaaPFnRunnersMeetx8
import Derived.Test.YtgobnhoblofglaaPFnRunnersMeetx9
import Derived.Test.YtgobnhoblofglaaPFnRunnersMeetx10
import Derived.Test.YtgobnhoblofglaaPFnRunnersMeetx11
import Derived.Test.YtgobnhoblofglaaPFnRunnersMeetx12
namespace Go.Proofs.Ytgobnhoblofglaa.PFnRunnersMeet
open Go.RowKit Go.Proofs.YtgobnhoblofglaaW.PrintWords Go.Proofs.YtgobnhoblofglaaW.PrintLast Go.Proofs.YtgobnhoblofglaaW.PrintMore
attribute [local go_sem] max2_int min2_int max_two min_two max_three min_three max_four min_four   -- for this text's walks alone
set_option linter.unusedVariables false
set_option linter.unusedSimpArgs false
set_option maxHeartbeats 80000000 in
set_option maxRecDepth 100000 in
theorem laws_FnRunnersMeet.case5 (k : Nat) (A0 : Option Addr) (c0 : Nat) (l0 : List Int) (A1 : Option Addr) (c1 : Nat) (l1 : List Int) (r : Bool) (w : World) : (laws_FnRunnersMeet.part k A0 c0 l0 A1 c1 l1 r w).2.2.2.2.1 := by
             intro HRT hu45 HR0 HC0 HR1 HC1 A3 t398 t399 t400 t401 t402 t403 A5 t406 t409 A6 t410 t413 A7 t414 t415 A8 t416 t417 A9 t418 t419 t420 A10 t421 t422 t423 A11 t424 t427 A12 t428 t431 A13 t432 t433 A14 t434 t435 A15 z1_ nd z2_ w17 gb404 w18 GW404 GE404 gb405 w19 GW405 GE405 NB404_405 NB405_404 hnb20 hnc20 w23 v407 w26 v411 w29 w32 w35 w38 w41 v425 w44 v429 w47 w50 HO408 HO412 HO426 HO430 z3_ z4_ z5_ z6_ u165 u166 u167 u168 u169 u170 u171 u172 u173 u174 u175 u176 u177 u178 u179 u180 u181 u182 u183 u184 u185 u186 u187 u188 u189 u190 u191 u192 u193 u194 u195 u196 u197 u198 u199 u200 u201 u202 u203 u204 u205 u206 u207 u208 u209 u210 u211 u212 u213 u214 u215 u216 u217 u218 u219 u220 u221 u222 u223 u224 u225 u226 u227 u228 u229 u230 u231 u232 u233 u234 u235 u236 u237 HO_9 z7_ z8_ z9_ z10_ kj15 HJ15 z11_ z12_ u32 u33 u34 u35 u36 u240 u241 u242 u243 u244 u245 u246 u247 u248 u249 u250 u251 u252 u253 u254 u255 u256 u257 u258 u259 u260 u261 u262 u263 u264 u265 u266 u267 u268 u269 u270 u271 u272 u273 u274 u275 u276 u277 u278 u279 u280 u281 u282 u283 u284 u285 u286 u287 u288 u289 u290 u291 u292 u293 u294 u295 u296 u297 u298 u299 u300 u301 u302 u303 u304 u305 u306 u307 u308 u309 u310 u311 u312 u313 u314 u315 u316 u317 u318 z13_ z14_ z15_ z16_ kj85 HJ85 z17_ u319 u320 u321 u322 u323 u324 u325 u326 u327 u328 u329 u330 u331 u332 u333 u334 u335 u336 u337 u338 u339 HO_23 z18_ z19_ z20_ kj122 HJ122 wc u4 u37 u38 u39 u40 u41 u42 u43 u44 u45 u342 u343 u344 u345 u346 u347 u348 u349 u350 u351 u352 u353 u354 u355 u356 u357 u358 u359 u360 u361 u362 u363 u364 u365 u366 u367 u368 u369 u370 u371 u372 u373 u374 u375 u376 u377 u378 u379 u380 u381 u382 u383 u384 u385 u386 u387 u388 u389 u390 u391 u392 u393 u394 u395 u396 u397 u398 u399 u400 u401 u402 u403 u404 u405 u406 u407 u408 u409 u410 u411 u412 u413 u414 u415 u416 u417 u418 u419 u420 u421 u422 BK404 BK405 HB kj132 HJ132 HC180 z21_ z22_ z23_ z24_ z25_ z26_
             have H := HC180.out
             clear HC180
             by_cases c181 : t433 = true
             ·
              subst c181
              rw [if_pos rfl] at H
              replace H := Option.bind_eq_some_iff.mp H
              obtain ⟨⟨t463, t464⟩, A1820, H⟩ := H
              (try dsimp only at H)
              have A182 := Aside0.mk A1820
              clear A1820
              replace H := Option.bind_eq_some_iff.mp H
              obtain ⟨⟨t465, t466⟩, A1830, H⟩ := H
              (try dsimp only at H)
              have A183 := Aside0.mk A1830
              clear A1830
              have HC184 := Aside0.mk H
              clear H
              have hnb185 := NB405_404.out
              have hnc185 := NB404_405.out
              have hcz186_0 : wc.cell? ⟨gb405, 0, none⟩ = some (.int .i64 t401) := (blk_cell BK405.out 0).trans rfl
              have hcz186_1 : wc.cell? ⟨gb405, 1, none⟩ = some (.int .i64 t402) := (blk_cell BK405.out 1).trans rfl
              have hfz186_0 := blk_frozen BK405.out 0
              have hfz186_1 := blk_frozen BK405.out 1
              have hcz187_0 : wc.cell? ⟨gb404, 0, none⟩ = some (.int .i64 t399) := (blk_cell BK404.out 0).trans rfl
              have hcz187_1 : wc.cell? ⟨gb404, 1, none⟩ = some (.int .i64 t400) := (blk_cell BK404.out 1).trans rfl
              have hfz187_0 := blk_frozen BK404.out 0
              have hfz187_1 := blk_frozen BK404.out 1
              go_upto_region 50 with (first | ((with_reducible refine gate_callee (f := 30) rfl ?_); refine goesL_ (some 429) rfl rfl Try.func30 (by kernel_rfl) rfl #[.int .i64 t398, .agg #[.int .i64 t401, .int .i64 t402], .agg #[.int .i64 t399, .int .i64 t400], .int .i64 t403] rfl (by (try simp only [List.map_toArray, List.map_cons, List.map_nil]); first | done | rfl | (simp only [List.length_drop, List.length_take]; rfl)) ?_; (with_reducible refine (impl_LeadBetween.calls kj132 t398 t401 t402 t399 t400 t403 t463 t464 _ A182.out).mono ?_); rintro e w188 ⟨rfl, hb⟩; refine ⟨_, rfl, ?_⟩; have n0_ := Aside0.mk (blk_below (g := gb404) (o := .cells #[.int .i64 t399, .int .i64 t400] 45 (0, 0)) bk_ hb); have n1_ := Aside0.mk (blk_below (g := gb405) (o := .cells #[.int .i64 t401, .int .i64 t402] 45 (0, 0)) bk_ hb); have n2_ := Aside0.mk (below_step bw_ hb); clear BK404; clear BK405; clear HB; have BK404 := n0_; have BK405 := n1_; have HB := n2_; clear n0_ n1_ n2_; (try clear hb); (try clear hb2); (try clear hk); (try clear hi); have hcz189_0 : w188.cell? ⟨gb404, 0, none⟩ = some (.int .i64 t399) := (blk_cell BK404.out 0).trans rfl; have hcz189_1 : w188.cell? ⟨gb404, 1, none⟩ = some (.int .i64 t400) := (blk_cell BK404.out 1).trans rfl; have hfz189_0 := blk_frozen BK404.out 0; have hfz189_1 := blk_frozen BK404.out 1; have hcz190_0 : w188.cell? ⟨gb405, 0, none⟩ = some (.int .i64 t401) := (blk_cell BK405.out 0).trans rfl; have hcz190_1 : w188.cell? ⟨gb405, 1, none⟩ = some (.int .i64 t402) := (blk_cell BK405.out 1).trans rfl; have hfz190_0 := blk_frozen BK405.out 0; have hfz190_1 := blk_frozen BK405.out 1) | ((with_reducible refine gate_callee (f := 30) rfl ?_); refine goesL_ (some 436) rfl rfl Try.func30 (by kernel_rfl) rfl #[.int .i64 t398, .agg #[.int .i64 t399, .int .i64 t400], .agg #[.int .i64 t401, .int .i64 t402], .int .i64 0] rfl (by (try simp only [List.map_toArray, List.map_cons, List.map_nil]); first | done | rfl | (simp only [List.length_drop, List.length_take]; rfl)) ?_; (with_reducible refine (impl_LeadBetween.calls kj132 t398 t399 t400 t401 t402 0 t465 t466 _ A183.out).mono ?_); rintro e w191 ⟨rfl, hb⟩; refine ⟨_, rfl, ?_⟩; have n0_ := Aside0.mk (blk_below (g := gb404) (o := .cells #[.int .i64 t399, .int .i64 t400] 45 (0, 0)) bk_ hb); have n1_ := Aside0.mk (blk_below (g := gb405) (o := .cells #[.int .i64 t401, .int .i64 t402] 45 (0, 0)) bk_ hb); have n2_ := Aside0.mk (below_step bw_ hb); clear BK404; clear BK405; clear HB; have BK404 := n0_; have BK405 := n1_; have HB := n2_; clear n0_ n1_ n2_; (try clear hb); (try clear hb2); (try clear hk); (try clear hi)))
              (try simp only [Act.put, List.setIfInBounds_toArray, List.set_cons_zero, List.set_cons_succ])
              go_cut [463] from 439 to 463 (fun v463 wc => ∃ (kq : Nat) (x463_183 : Bool), v463 = .bool x463_183 ∧ Aside0 (laws_FnRunnersMeet.j9 kq l1 t398 t414 t432 t465 x463_183 t399 t400 t401 t402 = some r) ∧ Aside0 (kq ≤ kj132) ∧ Aside0 (wc.heap[gb404]? = some (.cells #[.int .i64 t399, .int .i64 t400] 45 (0, 0))) ∧ Aside0 (wc.heap[gb405]? = some (.cells #[.int .i64 t401, .int .i64 t402] 45 (0, 0))) ∧ Aside0 (Below w.heap.size w wc))
              case first => as_aux_lemma =>
               have H := HC184.out
               clear HC184
               by_cases c192 : t464 = true
               ·
                subst c192
                rw [if_pos rfl] at H
                by_cases c193 : t463 = (wrap64 (-t432))
                ·
                 rw [if_pos c193] at H
                 have c193b0 : (t463 == (wrap64 (-t432))) = true := beq_iff_eq.mpr c193
                 have c193b1 : (t463 != (wrap64 (-t432))) = false := bne_eq_false_iff_eq.mpr c193
                 clear c193
                 (first | rw [c193b0] | (simp only [i64_w, i32_w]; rw [c193b0]) | skip)
                 by_cases c194 : t466 = true
                 ·
                  subst c194
                  rw [if_pos rfl] at H
                  have H' := Aside0.mk H
                  clear H
                  have hnb195 := NB404_405.out
                  have hnc195 := NB405_404.out
                  have hcz196_0 : w191.cell? ⟨gb404, 0, none⟩ = some (.int .i64 t399) := (blk_cell BK404.out 0).trans rfl
                  have hcz196_1 : w191.cell? ⟨gb404, 1, none⟩ = some (.int .i64 t400) := (blk_cell BK404.out 1).trans rfl
                  have hfz196_0 := blk_frozen BK404.out 0
                  have hfz196_1 := blk_frozen BK404.out 1
                  have hcz197_0 : w191.cell? ⟨gb405, 0, none⟩ = some (.int .i64 t401) := (blk_cell BK405.out 0).trans rfl
                  have hcz197_1 : w191.cell? ⟨gb405, 1, none⟩ = some (.int .i64 t402) := (blk_cell BK405.out 1).trans rfl
                  have hfz197_0 := blk_frozen BK405.out 0
                  have hfz197_1 := blk_frozen BK405.out 1
                  go_wp2
                  go_meet
                  case rel => exact ⟨_, ((t432 != (wrap64 (t465 + (wrap64 ((wrap64 (t400 - t402)) * t403)))))), (by first | rfl | (simp; done) | (simp [*]; done)), H', ⟨by have := HJ15.out; have := HJ85.out; have := HJ122.out; have := HJ132.out; first | omega | exact Nat.le_refl _⟩, ⟨bk_⟩, ⟨bk_⟩, ⟨bw_⟩⟩
                 ·
                  replace c194 := Bool.eq_false_iff.mpr c194
                  subst c194
                  rw [if_neg (show ¬ (false = true) by decide)] at H
                  exact absurd (H.trans (congrArg some HRT.out)) (by cases kj132 <;> simp [laws_FnRunnersMeet.j9])
                ·
                 rw [if_neg c193] at H
                 have c193b0 : (t463 == (wrap64 (-t432))) = false := beq_eq_false_iff_ne.mpr c193
                 have c193b1 : (t463 != (wrap64 (-t432))) = true := bne_iff_ne.mpr c193
                 (first | rw [c193b0] | (simp only [i64_w, i32_w]; rw [c193b0]) | skip)
                 exact absurd (H.trans (congrArg some HRT.out)) (by cases kj132 <;> simp [laws_FnRunnersMeet.j9])
               ·
                replace c192 := Bool.eq_false_iff.mpr c192
                subst c192
                rw [if_neg (show ¬ (false = true) by decide)] at H
                exact absurd (H.trans (congrArg some HRT.out)) (by cases kj132 <;> simp [laws_FnRunnersMeet.j9])
              case rest => as_aux_lemma =>
               clear HC184
               (try clear c1); (try clear c4); (try clear c85); (try clear c132); (try clear c181); (try clear hcz186_0); (try clear hcz186_1); (try clear hcz187_0); (try clear hcz187_1); (try clear hcz189_0); (try clear hcz189_1); (try clear hcz190_0); (try clear hcz190_1); (try clear hcz21_0); (try clear hcz21_1); (try clear hcz22_0); (try clear hcz22_1); (try clear hcz24_0); (try clear hcz24_1); (try clear hcz25_0); (try clear hcz25_1); (try clear hcz27_0); (try clear hcz27_1); (try clear hcz28_0); (try clear hcz28_1); (try clear hcz30_0); (try clear hcz30_1); (try clear hcz31_0); (try clear hcz31_1); (try clear hcz33_0); (try clear hcz33_1); (try clear hcz34_0); (try clear hcz34_1); (try clear hcz36_0); (try clear hcz36_1); (try clear hcz37_0); (try clear hcz37_1); (try clear hcz39_0); (try clear hcz39_1); (try clear hcz40_0); (try clear hcz40_1); (try clear hcz42_0); (try clear hcz42_1); (try clear hcz43_0); (try clear hcz43_1); (try clear hcz45_0); (try clear hcz45_1); (try clear hcz46_0); (try clear hcz46_1); (try clear hcz48_0); (try clear hcz48_1); (try clear hcz49_0); (try clear hcz49_1); (try clear hfz186_0); (try clear hfz186_1); (try clear hfz187_0); (try clear hfz187_1); (try clear hfz189_0); (try clear hfz189_1); (try clear hfz190_0); (try clear hfz190_1); (try clear hfz21_0); (try clear hfz21_1); (try clear hfz22_0); (try clear hfz22_1); (try clear hfz24_0); (try clear hfz24_1); (try clear hfz25_0); (try clear hfz25_1); (try clear hfz27_0); (try clear hfz27_1); (try clear hfz28_0); (try clear hfz28_1); (try clear hfz30_0); (try clear hfz30_1); (try clear hfz31_0); (try clear hfz31_1); (try clear hfz33_0); (try clear hfz33_1); (try clear hfz34_0); (try clear hfz34_1); (try clear hfz36_0); (try clear hfz36_1); (try clear hfz37_0); (try clear hfz37_1); (try clear hfz39_0); (try clear hfz39_1); (try clear hfz40_0); (try clear hfz40_1); (try clear hfz42_0); (try clear hfz42_1); (try clear hfz43_0); (try clear hfz43_1); (try clear hfz45_0); (try clear hfz45_1); (try clear hfz46_0); (try clear hfz46_1); (try clear hfz48_0); (try clear hfz48_1); (try clear hfz49_0); (try clear hfz49_1)
               obtain ⟨kq, x463_183, rfl, HA, HJ183, BK404, BK405, HB⟩ := hcut
               cases kq with
               | zero => exact absurd HA.out (by simp [laws_FnRunnersMeet.j9])
               | succ kj183 =>
                have H := HA.out
                clear HA
                simp only [laws_FnRunnersMeet.j9] at H
                by_cases c198 : x463_183 = true
                ·
                 subst c198
                 rw [if_pos rfl] at H
                 exact absurd ((Option.some.inj H).trans HRT.out) (by decide)
                ·
                 replace c198 := Bool.eq_false_iff.mpr c198
                 subst c198
                 rw [if_neg (show ¬ (false = true) by decide)] at H
                 have H' := Aside0.mk H
                 clear H
                 go_wp2
                 go_loopg [50, 51] kj183 (fun kq v50 v51 w' => ∃ (x50_6 : Int) (x51_6 : Int), v50 = .int .i64 x50_6 ∧ v51 = .int .i64 x51_6 ∧ Aside0 (laws_FnRunnersMeet.l2 kq l1 t398 t414 t432 t465 x50_6 x51_6 t399 t400 t401 t402 = some r) ∧ Aside0 (kq ≤ kj183) ∧ Aside0 (w'.heap[gb404]? = some (.cells #[.int .i64 t399, .int .i64 t400] 45 (0, 0))) ∧ Aside0 (w'.heap[gb405]? = some (.cells #[.int .i64 t401, .int .i64 t402] 45 (0, 0))) ∧ Aside0 (Below w.heap.size w w'))
                 case atStart => exact ⟨(0), ((-1)), (by first | rfl | (simp; done) | (simp [*]; done)), (by first | rfl | (simp; done) | (simp [*]; done)), H', ⟨Nat.le_refl _⟩, ⟨bk_⟩, ⟨bk_⟩, ⟨bw_⟩⟩
                 case round => as_aux_lemma =>
                  clear H'
                  (try clear c1); (try clear c4); (try clear c85); (try clear c132); (try clear c181); (try clear c198); (try clear hcz186_0); (try clear hcz186_1); (try clear hcz187_0); (try clear hcz187_1); (try clear hcz189_0); (try clear hcz189_1); (try clear hcz190_0); (try clear hcz190_1); (try clear hcz21_0); (try clear hcz21_1); (try clear hcz22_0); (try clear hcz22_1); (try clear hcz24_0); (try clear hcz24_1); (try clear hcz25_0); (try clear hcz25_1); (try clear hcz27_0); (try clear hcz27_1); (try clear hcz28_0); (try clear hcz28_1); (try clear hcz30_0); (try clear hcz30_1); (try clear hcz31_0); (try clear hcz31_1); (try clear hcz33_0); (try clear hcz33_1); (try clear hcz34_0); (try clear hcz34_1); (try clear hcz36_0); (try clear hcz36_1); (try clear hcz37_0); (try clear hcz37_1); (try clear hcz39_0); (try clear hcz39_1); (try clear hcz40_0); (try clear hcz40_1); (try clear hcz42_0); (try clear hcz42_1); (try clear hcz43_0); (try clear hcz43_1); (try clear hcz45_0); (try clear hcz45_1); (try clear hcz46_0); (try clear hcz46_1); (try clear hcz48_0); (try clear hcz48_1); (try clear hcz49_0); (try clear hcz49_1); (try clear hfz186_0); (try clear hfz186_1); (try clear hfz187_0); (try clear hfz187_1); (try clear hfz189_0); (try clear hfz189_1); (try clear hfz190_0); (try clear hfz190_1); (try clear hfz21_0); (try clear hfz21_1); (try clear hfz22_0); (try clear hfz22_1); (try clear hfz24_0); (try clear hfz24_1); (try clear hfz25_0); (try clear hfz25_1); (try clear hfz27_0); (try clear hfz27_1); (try clear hfz28_0); (try clear hfz28_1); (try clear hfz30_0); (try clear hfz30_1); (try clear hfz31_0); (try clear hfz31_1); (try clear hfz33_0); (try clear hfz33_1); (try clear hfz34_0); (try clear hfz34_1); (try clear hfz36_0); (try clear hfz36_1); (try clear hfz37_0); (try clear hfz37_1); (try clear hfz39_0); (try clear hfz39_1); (try clear hfz40_0); (try clear hfz40_1); (try clear hfz42_0); (try clear hfz42_1); (try clear hfz43_0); (try clear hfz43_1); (try clear hfz45_0); (try clear hfz45_1); (try clear hfz46_0); (try clear hfz46_1); (try clear hfz48_0); (try clear hfz48_1); (try clear hfz49_0); (try clear hfz49_1)
                  obtain ⟨x50_6, x51_6, rfl, rfl, HA, HK6, BK404, BK405, HB⟩ := hrel
                  cases gk with
                  | zero => exact absurd HA.out (by simp [laws_FnRunnersMeet.l2])
                  | succ k6 =>
                   have H := HA.out
                   clear HA
                   simp only [laws_FnRunnersMeet.l2] at H
                   by_cases c199 : x51_6 ≤ 1
                   ·
                    rw [if_pos c199] at H
                    have c199b0 : decide (x51_6 ≤ 1) = true := decide_eq_true c199
                    clear c199
                    by_cases c200 : t465 ≤ (wrap64 (x51_6 * t398))
                    ·
                     rw [if_pos c200] at H
                     have c200b0 : decide (t465 ≤ (wrap64 (x51_6 * t398))) = true := decide_eq_true c200
                     clear c200
                     by_cases c201 : t432 > (wrap64 (x51_6 * t398))
                     ·
                      rw [if_pos c201] at H
                      have c201b0 : decide ((wrap64 (x51_6 * t398)) < t432) = true := decide_eq_true c201
                      clear c201
                      have H' := Aside0.mk H
                      clear H
                      go_wp2
                      go_roundg k6
                      case measure => have := HJ15.out; have := HJ85.out; have := HJ122.out; have := HJ132.out; have := HJ183.out; have := HK6.out; omega
                      case rel => exact ⟨(wrap64 (x50_6 + 1)), (wrap64 (x51_6 + 1)), (by first | rfl | (simp; done) | (simp [*]; done)), (by first | rfl | (simp; done) | (simp [*]; done)), H', ⟨by have := HJ15.out; have := HJ85.out; have := HJ122.out; have := HJ132.out; have := HJ183.out; have := HK6.out; omega⟩, ⟨bk_⟩, ⟨bk_⟩, ⟨bw_⟩⟩
                     ·
                      rw [if_neg c201] at H
                      have c201b0 : decide ((wrap64 (x51_6 * t398)) < t432) = false := decide_eq_false c201
                      clear c201
                      have H' := Aside0.mk H
                      clear H
                      go_wp2
                      go_roundg k6
                      case measure => have := HJ15.out; have := HJ85.out; have := HJ122.out; have := HJ132.out; have := HJ183.out; have := HK6.out; omega
                      case rel => exact ⟨(x50_6), (wrap64 (x51_6 + 1)), (by first | rfl | (simp; done) | (simp [*]; done)), (by first | rfl | (simp; done) | (simp [*]; done)), H', ⟨by have := HJ15.out; have := HJ85.out; have := HJ122.out; have := HJ132.out; have := HJ183.out; have := HK6.out; omega⟩, ⟨bk_⟩, ⟨bk_⟩, ⟨bw_⟩⟩
                    ·
                     rw [if_neg c200] at H
                     have c200b0 : decide (t465 ≤ (wrap64 (x51_6 * t398))) = false := decide_eq_false c200
                     clear c200
                     have H' := Aside0.mk H
                     clear H
                     go_wp2
                     go_roundg k6
                     case measure => have := HJ15.out; have := HJ85.out; have := HJ122.out; have := HJ132.out; have := HJ183.out; have := HK6.out; omega
                     case rel => exact ⟨(x50_6), (wrap64 (x51_6 + 1)), (by first | rfl | (simp; done) | (simp [*]; done)), (by first | rfl | (simp; done) | (simp [*]; done)), H', ⟨by have := HJ15.out; have := HJ85.out; have := HJ122.out; have := HJ132.out; have := HJ183.out; have := HK6.out; omega⟩, ⟨bk_⟩, ⟨bk_⟩, ⟨bw_⟩⟩
                   ·
                    rw [if_neg c199] at H
                    have c199b0 : decide (x51_6 ≤ 1) = false := decide_eq_false c199
                    clear c199
                    by_cases c202 : t414 < x50_6
                    ·
                     rw [if_pos c202] at H
                     have c202b0 : decide (t414 < x50_6) = true := decide_eq_true c202
                     clear c202
                     exact absurd ((Option.some.inj H).trans HRT.out) (by decide)
                    ·
                     rw [if_neg c202] at H
                     have c202b0 : decide (t414 < x50_6) = false := decide_eq_false c202
                     clear c202
                     by_cases c203 : t400 ≤ t402
                     ·
                      rw [if_pos c203] at H
                      have c203b0 : decide (t400 ≤ t402) = true := decide_eq_true c203
                      clear c203
                      by_cases c204 : t414 = 0
                      ·
                       rw [if_pos c204] at H
                       have c204b0 : (t414 == 0) = true := beq_iff_eq.mpr c204
                       have c204b1 : (t414 != 0) = false := bne_eq_false_iff_eq.mpr c204
                       clear c204
                       by_cases c205 : t432 ≤ t398
                       ·
                        rw [if_pos c205] at H
                        have c205b0 : decide (t432 ≤ t398) = true := decide_eq_true c205
                        clear c205
                        by_cases c206 : t414 = x50_6
                        ·
                         rw [if_pos c206] at H
                         have c206b0 : (t414 == x50_6) = true := beq_iff_eq.mpr c206
                         have c206b1 : (t414 != x50_6) = false := bne_eq_false_iff_eq.mpr c206
                         clear c206
                         by_cases c207 : t432 > t398
                         ·
                          rw [if_pos c207] at H
                          have c207b0 : decide (t398 < t432) = true := decide_eq_true c207
                          clear c207
                          by_cases c208 : t398 = 0
                          ·
                           rw [if_pos c208] at H
                           exact absurd H (by simp)
                          ·
                           rw [if_neg c208] at H
                           have c208b0 : (t398 == 0) = false := beq_eq_false_iff_ne.mpr c208
                           have c208b1 : (t398 != 0) = true := bne_iff_ne.mpr c208
                           by_cases c209 : t414 = (wrap64 ((wrap64 (x50_6 + (wrap64 (Int.tdiv (wrap64 (t432 - 1)) t398)))) - 1))
                           ·
                            rw [if_pos c209] at H
                            have c209b0 : (t414 == (wrap64 ((wrap64 (x50_6 + (wrap64 (Int.tdiv (wrap64 (t432 - 1)) t398)))) - 1))) = true := beq_iff_eq.mpr c209
                            have c209b1 : (t414 != (wrap64 ((wrap64 (x50_6 + (wrap64 (Int.tdiv (wrap64 (t432 - 1)) t398)))) - 1))) = false := bne_eq_false_iff_eq.mpr c209
                            clear c209
                            have H' := Aside0.mk H
                            clear H
                            have hnb210 := NB404_405.out
                            have hnc210 := NB405_404.out
                            have hcz211_0 : wr.cell? ⟨gb404, 0, none⟩ = some (.int .i64 t399) := (blk_cell BK404.out 0).trans rfl
                            have hcz211_1 : wr.cell? ⟨gb404, 1, none⟩ = some (.int .i64 t400) := (blk_cell BK404.out 1).trans rfl
                            have hfz211_0 := blk_frozen BK404.out 0
                            have hfz211_1 := blk_frozen BK404.out 1
                            have hcz212_0 : wr.cell? ⟨gb405, 0, none⟩ = some (.int .i64 t401) := (blk_cell BK405.out 0).trans rfl
                            have hcz212_1 : wr.cell? ⟨gb405, 1, none⟩ = some (.int .i64 t402) := (blk_cell BK405.out 1).trans rfl
                            have hfz212_0 := blk_frozen BK405.out 0
                            have hfz212_1 := blk_frozen BK405.out 1
                            go_wp2
                            go_meet
                            case rel => exact ⟨_, H', ⟨by have := HJ15.out; have := HJ85.out; have := HJ122.out; have := HJ132.out; have := HJ183.out; have := HK6.out; first | omega | exact Nat.le_refl _⟩, ⟨bk_⟩, ⟨bk_⟩, ⟨bw_⟩⟩
                           ·
                            rw [if_neg c209] at H
                            have c209b0 : (t414 == (wrap64 ((wrap64 (x50_6 + (wrap64 (Int.tdiv (wrap64 (t432 - 1)) t398)))) - 1))) = false := beq_eq_false_iff_ne.mpr c209
                            have c209b1 : (t414 != (wrap64 ((wrap64 (x50_6 + (wrap64 (Int.tdiv (wrap64 (t432 - 1)) t398)))) - 1))) = true := bne_iff_ne.mpr c209
                            exact absurd ((Option.some.inj H).trans HRT.out) (by decide)
                         ·
                          rw [if_neg c207] at H
                          have c207b0 : decide (t398 < t432) = false := decide_eq_false c207
                          clear c207
                          have H' := Aside0.mk H
                          clear H
                          have hnb213 := NB404_405.out
                          have hnc213 := NB405_404.out
                          have hcz214_0 : wr.cell? ⟨gb404, 0, none⟩ = some (.int .i64 t399) := (blk_cell BK404.out 0).trans rfl
                          have hcz214_1 : wr.cell? ⟨gb404, 1, none⟩ = some (.int .i64 t400) := (blk_cell BK404.out 1).trans rfl
                          have hfz214_0 := blk_frozen BK404.out 0
                          have hfz214_1 := blk_frozen BK404.out 1
                          have hcz215_0 : wr.cell? ⟨gb405, 0, none⟩ = some (.int .i64 t401) := (blk_cell BK405.out 0).trans rfl
                          have hcz215_1 : wr.cell? ⟨gb405, 1, none⟩ = some (.int .i64 t402) := (blk_cell BK405.out 1).trans rfl
                          have hfz215_0 := blk_frozen BK405.out 0
                          have hfz215_1 := blk_frozen BK405.out 1
                          go_wp2
                          go_meet
                          case rel => exact ⟨_, H', ⟨by have := HJ15.out; have := HJ85.out; have := HJ122.out; have := HJ132.out; have := HJ183.out; have := HK6.out; first | omega | exact Nat.le_refl _⟩, ⟨bk_⟩, ⟨bk_⟩, ⟨bw_⟩⟩
                        ·
                         rw [if_neg c206] at H
                         have c206b0 : (t414 == x50_6) = false := beq_eq_false_iff_ne.mpr c206
                         have c206b1 : (t414 != x50_6) = true := bne_iff_ne.mpr c206
                         exact absurd ((Option.some.inj H).trans HRT.out) (by decide)
                       ·
                        rw [if_neg c205] at H
                        have c205b0 : decide (t432 ≤ t398) = false := decide_eq_false c205
                        clear c205
                        by_cases c216 : t432 > t398
                        ·
                         rw [if_pos c216] at H
                         have c216b0 : decide (t398 < t432) = true := decide_eq_true c216
                         clear c216
                         by_cases c217 : t398 = 0
                         ·
                          rw [if_pos c217] at H
                          exact absurd H (by simp)
                         ·
                          rw [if_neg c217] at H
                          have c217b0 : (t398 == 0) = false := beq_eq_false_iff_ne.mpr c217
                          have c217b1 : (t398 != 0) = true := bne_iff_ne.mpr c217
                          by_cases c218 : t414 = (wrap64 ((wrap64 (x50_6 + (wrap64 (Int.tdiv (wrap64 (t432 - 1)) t398)))) - 1))
                          ·
                           rw [if_pos c218] at H
                           have c218b0 : (t414 == (wrap64 ((wrap64 (x50_6 + (wrap64 (Int.tdiv (wrap64 (t432 - 1)) t398)))) - 1))) = true := beq_iff_eq.mpr c218
                           have c218b1 : (t414 != (wrap64 ((wrap64 (x50_6 + (wrap64 (Int.tdiv (wrap64 (t432 - 1)) t398)))) - 1))) = false := bne_eq_false_iff_eq.mpr c218
                           clear c218
                           have H' := Aside0.mk H
                           clear H
                           have hnb219 := NB404_405.out
                           have hnc219 := NB405_404.out
                           have hcz220_0 : wr.cell? ⟨gb404, 0, none⟩ = some (.int .i64 t399) := (blk_cell BK404.out 0).trans rfl
                           have hcz220_1 : wr.cell? ⟨gb404, 1, none⟩ = some (.int .i64 t400) := (blk_cell BK404.out 1).trans rfl
                           have hfz220_0 := blk_frozen BK404.out 0
                           have hfz220_1 := blk_frozen BK404.out 1
                           have hcz221_0 : wr.cell? ⟨gb405, 0, none⟩ = some (.int .i64 t401) := (blk_cell BK405.out 0).trans rfl
                           have hcz221_1 : wr.cell? ⟨gb405, 1, none⟩ = some (.int .i64 t402) := (blk_cell BK405.out 1).trans rfl
                           have hfz221_0 := blk_frozen BK405.out 0
                           have hfz221_1 := blk_frozen BK405.out 1
                           go_wp2
                           go_meet
                           case rel => exact ⟨_, H', ⟨by have := HJ15.out; have := HJ85.out; have := HJ122.out; have := HJ132.out; have := HJ183.out; have := HK6.out; first | omega | exact Nat.le_refl _⟩, ⟨bk_⟩, ⟨bk_⟩, ⟨bw_⟩⟩
                          ·
                           rw [if_neg c218] at H
                           have c218b0 : (t414 == (wrap64 ((wrap64 (x50_6 + (wrap64 (Int.tdiv (wrap64 (t432 - 1)) t398)))) - 1))) = false := beq_eq_false_iff_ne.mpr c218
                           have c218b1 : (t414 != (wrap64 ((wrap64 (x50_6 + (wrap64 (Int.tdiv (wrap64 (t432 - 1)) t398)))) - 1))) = true := bne_iff_ne.mpr c218
                           exact absurd ((Option.some.inj H).trans HRT.out) (by decide)
                        ·
                         rw [if_neg c216] at H
                         have c216b0 : decide (t398 < t432) = false := decide_eq_false c216
                         clear c216
                         have H' := Aside0.mk H
                         clear H
                         have hnb222 := NB404_405.out
                         have hnc222 := NB405_404.out
                         have hcz223_0 : wr.cell? ⟨gb404, 0, none⟩ = some (.int .i64 t399) := (blk_cell BK404.out 0).trans rfl
                         have hcz223_1 : wr.cell? ⟨gb404, 1, none⟩ = some (.int .i64 t400) := (blk_cell BK404.out 1).trans rfl
                         have hfz223_0 := blk_frozen BK404.out 0
                         have hfz223_1 := blk_frozen BK404.out 1
                         have hcz224_0 : wr.cell? ⟨gb405, 0, none⟩ = some (.int .i64 t401) := (blk_cell BK405.out 0).trans rfl
                         have hcz224_1 : wr.cell? ⟨gb405, 1, none⟩ = some (.int .i64 t402) := (blk_cell BK405.out 1).trans rfl
                         have hfz224_0 := blk_frozen BK405.out 0
                         have hfz224_1 := blk_frozen BK405.out 1
                         go_wp2
                         go_meet
                         case rel => exact ⟨_, H', ⟨by have := HJ15.out; have := HJ85.out; have := HJ122.out; have := HJ132.out; have := HJ183.out; have := HK6.out; first | omega | exact Nat.le_refl _⟩, ⟨bk_⟩, ⟨bk_⟩, ⟨bw_⟩⟩
                      ·
                       rw [if_neg c204] at H
                       have c204b0 : (t414 == 0) = false := beq_eq_false_iff_ne.mpr c204
                       have c204b1 : (t414 != 0) = true := bne_iff_ne.mpr c204
                       exact absurd ((Option.some.inj H).trans HRT.out) (by decide)
                     ·
                      rw [if_neg c203] at H
                      have c203b0 : decide (t400 ≤ t402) = false := decide_eq_false c203
                      clear c203
                      by_cases c225 : t432 ≤ t398
                      ·
                       rw [if_pos c225] at H
                       have c225b0 : decide (t432 ≤ t398) = true := decide_eq_true c225
                       clear c225
                       by_cases c226 : t414 = x50_6
                       ·
                        rw [if_pos c226] at H
                        have c226b0 : (t414 == x50_6) = true := beq_iff_eq.mpr c226
                        have c226b1 : (t414 != x50_6) = false := bne_eq_false_iff_eq.mpr c226
                        clear c226
                        by_cases c227 : t432 > t398
                        ·
                         rw [if_pos c227] at H
                         have c227b0 : decide (t398 < t432) = true := decide_eq_true c227
                         clear c227
                         by_cases c228 : t398 = 0
                         ·
                          rw [if_pos c228] at H
                          exact absurd H (by simp)
                         ·
                          rw [if_neg c228] at H
                          have c228b0 : (t398 == 0) = false := beq_eq_false_iff_ne.mpr c228
                          have c228b1 : (t398 != 0) = true := bne_iff_ne.mpr c228
                          by_cases c229 : t414 = (wrap64 ((wrap64 (x50_6 + (wrap64 (Int.tdiv (wrap64 (t432 - 1)) t398)))) - 1))
                          ·
                           rw [if_pos c229] at H
                           have c229b0 : (t414 == (wrap64 ((wrap64 (x50_6 + (wrap64 (Int.tdiv (wrap64 (t432 - 1)) t398)))) - 1))) = true := beq_iff_eq.mpr c229
                           have c229b1 : (t414 != (wrap64 ((wrap64 (x50_6 + (wrap64 (Int.tdiv (wrap64 (t432 - 1)) t398)))) - 1))) = false := bne_eq_false_iff_eq.mpr c229
                           clear c229
                           have H' := Aside0.mk H
                           clear H
                           have hnb230 := NB404_405.out
                           have hnc230 := NB405_404.out
                           have hcz231_0 : wr.cell? ⟨gb404, 0, none⟩ = some (.int .i64 t399) := (blk_cell BK404.out 0).trans rfl
                           have hcz231_1 : wr.cell? ⟨gb404, 1, none⟩ = some (.int .i64 t400) := (blk_cell BK404.out 1).trans rfl
                           have hfz231_0 := blk_frozen BK404.out 0
                           have hfz231_1 := blk_frozen BK404.out 1
                           have hcz232_0 : wr.cell? ⟨gb405, 0, none⟩ = some (.int .i64 t401) := (blk_cell BK405.out 0).trans rfl
                           have hcz232_1 : wr.cell? ⟨gb405, 1, none⟩ = some (.int .i64 t402) := (blk_cell BK405.out 1).trans rfl
                           have hfz232_0 := blk_frozen BK405.out 0
                           have hfz232_1 := blk_frozen BK405.out 1
                           go_wp2
                           go_meet
                           case rel => exact ⟨_, H', ⟨by have := HJ15.out; have := HJ85.out; have := HJ122.out; have := HJ132.out; have := HJ183.out; have := HK6.out; first | omega | exact Nat.le_refl _⟩, ⟨bk_⟩, ⟨bk_⟩, ⟨bw_⟩⟩
                          ·
                           rw [if_neg c229] at H
                           have c229b0 : (t414 == (wrap64 ((wrap64 (x50_6 + (wrap64 (Int.tdiv (wrap64 (t432 - 1)) t398)))) - 1))) = false := beq_eq_false_iff_ne.mpr c229
                           have c229b1 : (t414 != (wrap64 ((wrap64 (x50_6 + (wrap64 (Int.tdiv (wrap64 (t432 - 1)) t398)))) - 1))) = true := bne_iff_ne.mpr c229
                           exact absurd ((Option.some.inj H).trans HRT.out) (by decide)
                        ·
                         rw [if_neg c227] at H
                         have c227b0 : decide (t398 < t432) = false := decide_eq_false c227
                         clear c227
                         have H' := Aside0.mk H
                         clear H
                         have hnb233 := NB404_405.out
                         have hnc233 := NB405_404.out
                         have hcz234_0 : wr.cell? ⟨gb404, 0, none⟩ = some (.int .i64 t399) := (blk_cell BK404.out 0).trans rfl
                         have hcz234_1 : wr.cell? ⟨gb404, 1, none⟩ = some (.int .i64 t400) := (blk_cell BK404.out 1).trans rfl
                         have hfz234_0 := blk_frozen BK404.out 0
                         have hfz234_1 := blk_frozen BK404.out 1
                         have hcz235_0 : wr.cell? ⟨gb405, 0, none⟩ = some (.int .i64 t401) := (blk_cell BK405.out 0).trans rfl
                         have hcz235_1 : wr.cell? ⟨gb405, 1, none⟩ = some (.int .i64 t402) := (blk_cell BK405.out 1).trans rfl
                         have hfz235_0 := blk_frozen BK405.out 0
                         have hfz235_1 := blk_frozen BK405.out 1
                         go_wp2
                         go_meet
                         case rel => exact ⟨_, H', ⟨by have := HJ15.out; have := HJ85.out; have := HJ122.out; have := HJ132.out; have := HJ183.out; have := HK6.out; first | omega | exact Nat.le_refl _⟩, ⟨bk_⟩, ⟨bk_⟩, ⟨bw_⟩⟩
                       ·
                        rw [if_neg c226] at H
                        have c226b0 : (t414 == x50_6) = false := beq_eq_false_iff_ne.mpr c226
                        have c226b1 : (t414 != x50_6) = true := bne_iff_ne.mpr c226
                        exact absurd ((Option.some.inj H).trans HRT.out) (by decide)
                      ·
                       rw [if_neg c225] at H
                       have c225b0 : decide (t432 ≤ t398) = false := decide_eq_false c225
                       clear c225
                       by_cases c236 : t432 > t398
                       ·
                        rw [if_pos c236] at H
                        have c236b0 : decide (t398 < t432) = true := decide_eq_true c236
                        clear c236
                        by_cases c237 : t398 = 0
                        ·
                         rw [if_pos c237] at H
                         exact absurd H (by simp)
                        ·
                         rw [if_neg c237] at H
                         have c237b0 : (t398 == 0) = false := beq_eq_false_iff_ne.mpr c237
                         have c237b1 : (t398 != 0) = true := bne_iff_ne.mpr c237
                         by_cases c238 : t414 = (wrap64 ((wrap64 (x50_6 + (wrap64 (Int.tdiv (wrap64 (t432 - 1)) t398)))) - 1))
                         ·
                          rw [if_pos c238] at H
                          have c238b0 : (t414 == (wrap64 ((wrap64 (x50_6 + (wrap64 (Int.tdiv (wrap64 (t432 - 1)) t398)))) - 1))) = true := beq_iff_eq.mpr c238
                          have c238b1 : (t414 != (wrap64 ((wrap64 (x50_6 + (wrap64 (Int.tdiv (wrap64 (t432 - 1)) t398)))) - 1))) = false := bne_eq_false_iff_eq.mpr c238
                          clear c238
                          have H' := Aside0.mk H
                          clear H
                          have hnb239 := NB404_405.out
                          have hnc239 := NB405_404.out
                          have hcz240_0 : wr.cell? ⟨gb404, 0, none⟩ = some (.int .i64 t399) := (blk_cell BK404.out 0).trans rfl
                          have hcz240_1 : wr.cell? ⟨gb404, 1, none⟩ = some (.int .i64 t400) := (blk_cell BK404.out 1).trans rfl
                          have hfz240_0 := blk_frozen BK404.out 0
                          have hfz240_1 := blk_frozen BK404.out 1
                          have hcz241_0 : wr.cell? ⟨gb405, 0, none⟩ = some (.int .i64 t401) := (blk_cell BK405.out 0).trans rfl
                          have hcz241_1 : wr.cell? ⟨gb405, 1, none⟩ = some (.int .i64 t402) := (blk_cell BK405.out 1).trans rfl
                          have hfz241_0 := blk_frozen BK405.out 0
                          have hfz241_1 := blk_frozen BK405.out 1
                          go_wp2
                          go_meet
                          case rel => exact ⟨_, H', ⟨by have := HJ15.out; have := HJ85.out; have := HJ122.out; have := HJ132.out; have := HJ183.out; have := HK6.out; first | omega | exact Nat.le_refl _⟩, ⟨bk_⟩, ⟨bk_⟩, ⟨bw_⟩⟩
                         ·
                          rw [if_neg c238] at H
                          have c238b0 : (t414 == (wrap64 ((wrap64 (x50_6 + (wrap64 (Int.tdiv (wrap64 (t432 - 1)) t398)))) - 1))) = false := beq_eq_false_iff_ne.mpr c238
                          have c238b1 : (t414 != (wrap64 ((wrap64 (x50_6 + (wrap64 (Int.tdiv (wrap64 (t432 - 1)) t398)))) - 1))) = true := bne_iff_ne.mpr c238
                          exact absurd ((Option.some.inj H).trans HRT.out) (by decide)
                       ·
                        rw [if_neg c236] at H
                        have c236b0 : decide (t398 < t432) = false := decide_eq_false c236
                        clear c236
                        have H' := Aside0.mk H
                        clear H
                        have hnb242 := NB404_405.out
                        have hnc242 := NB405_404.out
                        have hcz243_0 : wr.cell? ⟨gb404, 0, none⟩ = some (.int .i64 t399) := (blk_cell BK404.out 0).trans rfl
                        have hcz243_1 : wr.cell? ⟨gb404, 1, none⟩ = some (.int .i64 t400) := (blk_cell BK404.out 1).trans rfl
                        have hfz243_0 := blk_frozen BK404.out 0
                        have hfz243_1 := blk_frozen BK404.out 1
                        have hcz244_0 : wr.cell? ⟨gb405, 0, none⟩ = some (.int .i64 t401) := (blk_cell BK405.out 0).trans rfl
                        have hcz244_1 : wr.cell? ⟨gb405, 1, none⟩ = some (.int .i64 t402) := (blk_cell BK405.out 1).trans rfl
                        have hfz244_0 := blk_frozen BK405.out 0
                        have hfz244_1 := blk_frozen BK405.out 1
                        go_wp2
                        go_meet
                        case rel => exact ⟨_, H', ⟨by have := HJ15.out; have := HJ85.out; have := HJ122.out; have := HJ132.out; have := HJ183.out; have := HK6.out; first | omega | exact Nat.le_refl _⟩, ⟨bk_⟩, ⟨bk_⟩, ⟨bw_⟩⟩
             ·
              replace c181 := Bool.eq_false_iff.mpr c181
              subst c181
              rw [if_neg (show ¬ (false = true) by decide)] at H
              have H' := Aside0.mk H
              clear H
              go_wp2
              go_meet
              case rel => exact ⟨_, H', ⟨by have := HJ15.out; have := HJ85.out; have := HJ122.out; have := HJ132.out; first | omega | exact Nat.le_refl _⟩, ⟨bk_⟩, ⟨bk_⟩, ⟨bw_⟩⟩
end Go.Proofs.Ytgobnhoblofglaa.PFnRunnersMeet
