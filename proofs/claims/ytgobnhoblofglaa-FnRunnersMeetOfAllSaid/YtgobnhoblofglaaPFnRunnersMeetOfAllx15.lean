-- Laid by a program of this session's (wip/gen/printp.sh): the functions that the law reaches, each with its walk.
import Derived.Test.YtgobnhoblofglaaPFnRunnersMeetOfAllx0
import Derived.Test.YtgobnhoblofglaaPFnRunnersMeetOfAllx1
import Derived.Test.YtgobnhoblofglaaPFnRunnersMeetOfAllx2
import Derived.Test.YtgobnhoblofglaaPFnRunnersMeetOfAllx3
import Derived.Test.YtgobnhoblofglaaPFnRunnersMeetOfAllx4
import Derived.Test.YtgobnhoblofglaaPFnRunnersMeetOfAllx5
import Derived.Test.YtgobnhoblofglaaPFnRunnersMeetOfAllx6
import Derived.Test.YtgobnhoblofglaaPFnRunnersMeetOfAllx7
import Derived.Test.YtgobnhoblofglaaPFnRunnersMeetOfAllx8
import Derived.Test.YtgobnhoblofglaaPFnRunnersMeetOfAllx9
import Derived.Test.YtgobnhoblofglaaPFnRunnersMeetOfAllx10
namespace Go.Proofs.Ytgobnhoblofglaa.PFnRunnersMeetOfAll
open Go.RowKit Go.Proofs.YtgobnhoblofglaaW.PrintWords Go.Proofs.YtgobnhoblofglaaW.PrintLast Go.Proofs.YtgobnhoblofglaaW.PrintMore
attribute [local go_sem] max2_int min2_int max_two min_two max_three min_three max_four min_four   -- for this text's walks alone
set_option linter.unusedVariables false
set_option linter.unusedSimpArgs false
set_option maxHeartbeats 80000000 in
set_option maxRecDepth 100000 in
theorem laws_FnRunnersMeetOfAll.case5 (k : Nat) (a0 : Int) (a1_0 : Int) (a1_1 : Int) (a2_0 : Int) (a2_1 : Int) (a3 : Int) (a4 : Int) (A5 : Option Addr) (c5 : Nat) (l5 : List (S45)) (r : Bool) (w : World) : (laws_FnRunnersMeetOfAll.part k a0 a1_0 a1_1 a2_0 a2_1 a3 a4 A5 c5 l5 r w).2.2.2.2.1 := by
             intro HRT hu45 HR5 HC5 t268 t271 A10 t272 t275 A11 t276 t277 A12 t278 t279 A13 t280 t281 t282 A14 t283 t284 t285 A15 t286 t289 A16 t290 t293 A17 t294 t295 A18 t296 t297 A19 z1_ gb266 w21 GW266 GE266 gb267 w22 GW267 GE267 NB266_267 NB267_266 hnb23 hnc23 w26 v269 w29 v273 w32 w35 w38 w41 w44 v287 w47 v291 w50 w53 HO270 HO274 HO288 HO292 z2_ z3_ z4_ z5_ u160 u161 u162 u163 u164 u165 u166 u167 u168 u169 u170 u171 u172 u173 u174 u175 u176 u177 u178 u179 u180 u181 u182 u183 u184 u185 u186 u187 u188 u189 u190 u191 u192 u193 u194 u195 u196 u197 u198 u199 u200 u201 u202 u203 u204 u205 u206 u207 u208 u209 u210 u211 u212 u213 u214 u215 u216 u217 u218 u219 u220 u221 u222 u223 u224 u225 u226 u227 u228 u229 u230 u231 u232 HO_13 z6_ z7_ z8_ z9_ kj19 HJ19 z10_ z11_ u36 u37 u38 u39 u40 u235 u236 u237 u238 u239 u240 u241 u242 u243 u244 u245 u246 u247 u248 u249 u250 u251 u252 u253 u254 u255 u256 u257 u258 u259 u260 u261 u262 u263 u264 u265 u266 u267 u268 u269 u270 u271 u272 u273 u274 u275 u276 u277 u278 u279 u280 u281 u282 u283 u284 u285 u286 u287 u288 u289 u290 u291 u292 u293 u294 u295 u296 u297 u298 u299 u300 u301 u302 u303 u304 u305 u306 u307 u308 u309 u310 u311 u312 u313 z12_ z13_ z14_ z15_ kj88 HJ88 z16_ u314 u315 u316 u317 u318 u319 u320 u321 u322 u323 u324 u325 u326 u327 u328 u329 u330 u331 u332 u333 u334 HO_27 z17_ z18_ z19_ kj125 HJ125 wc u12 u41 u42 u43 u44 u45 u46 u47 u48 u49 u337 u338 u339 u340 u341 u342 u343 u344 u345 u346 u347 u348 u349 u350 u351 u352 u353 u354 u355 u356 u357 u358 u359 u360 u361 u362 u363 u364 u365 u366 u367 u368 u369 u370 u371 u372 u373 u374 u375 u376 u377 u378 u379 u380 u381 u382 u383 u384 u385 u386 u387 u388 u389 u390 u391 u392 u393 u394 u395 u396 u397 u398 u399 u400 u401 u402 u403 u404 u405 u406 u407 u408 u409 u410 u411 u412 u413 u414 u415 u416 u417 BK266 BK267 HB kj135 HJ135 HC183 z20_ z21_ z22_ z23_ z24_ z25_
             have H := HC183.out
             clear HC183
             by_cases c184 : t295 = true
             ·
              subst c184
              rw [if_pos rfl] at H
              replace H := Option.bind_eq_some_iff.mp H
              obtain ⟨⟨t325, t326⟩, A1850, H⟩ := H
              (try dsimp only at H)
              have A185 := Aside0.mk A1850
              clear A1850
              replace H := Option.bind_eq_some_iff.mp H
              obtain ⟨⟨t327, t328⟩, A1860, H⟩ := H
              (try dsimp only at H)
              have A186 := Aside0.mk A1860
              clear A1860
              have HC187 := Aside0.mk H
              clear H
              have hnb188 := NB267_266.out
              have hnc188 := NB266_267.out
              have hcz189_0 : wc.cell? ⟨gb267, 0, none⟩ = some (.int .i64 a2_0) := (blk_cell BK267.out 0).trans rfl
              have hcz189_1 : wc.cell? ⟨gb267, 1, none⟩ = some (.int .i64 a2_1) := (blk_cell BK267.out 1).trans rfl
              have hfz189_0 := blk_frozen BK267.out 0
              have hfz189_1 := blk_frozen BK267.out 1
              have hcz190_0 : wc.cell? ⟨gb266, 0, none⟩ = some (.int .i64 a1_0) := (blk_cell BK266.out 0).trans rfl
              have hcz190_1 : wc.cell? ⟨gb266, 1, none⟩ = some (.int .i64 a1_1) := (blk_cell BK266.out 1).trans rfl
              have hfz190_0 := blk_frozen BK266.out 0
              have hfz190_1 := blk_frozen BK266.out 1
              go_upto_region 49 with (first | ((with_reducible refine gate_callee (f := 30) rfl ?_); refine goesL_ (some 424) rfl rfl Try.func30 (by kernel_rfl) rfl #[.int .i64 a0, .agg #[.int .i64 a2_0, .int .i64 a2_1], .agg #[.int .i64 a1_0, .int .i64 a1_1], .int .i64 a3] rfl (by (try simp only [List.map_toArray, List.map_cons, List.map_nil]); first | done | rfl | (simp only [List.length_drop, List.length_take]; rfl)) ?_; (with_reducible refine (impl_LeadBetween.calls kj135 a0 a2_0 a2_1 a1_0 a1_1 a3 t325 t326 _ A185.out).mono ?_); rintro e w191 ⟨rfl, hb⟩; refine ⟨_, rfl, ?_⟩; have n0_ := Aside0.mk (blk_below (g := gb266) (o := .cells #[.int .i64 a1_0, .int .i64 a1_1] 45 (0, 0)) bk_ hb); have n1_ := Aside0.mk (blk_below (g := gb267) (o := .cells #[.int .i64 a2_0, .int .i64 a2_1] 45 (0, 0)) bk_ hb); have n2_ := Aside0.mk (below_step bw_ hb); clear BK266; clear BK267; clear HB; have BK266 := n0_; have BK267 := n1_; have HB := n2_; clear n0_ n1_ n2_; (try clear hb); (try clear hb2); (try clear hk); (try clear hi); have hcz192_0 : w191.cell? ⟨gb266, 0, none⟩ = some (.int .i64 a1_0) := (blk_cell BK266.out 0).trans rfl; have hcz192_1 : w191.cell? ⟨gb266, 1, none⟩ = some (.int .i64 a1_1) := (blk_cell BK266.out 1).trans rfl; have hfz192_0 := blk_frozen BK266.out 0; have hfz192_1 := blk_frozen BK266.out 1; have hcz193_0 : w191.cell? ⟨gb267, 0, none⟩ = some (.int .i64 a2_0) := (blk_cell BK267.out 0).trans rfl; have hcz193_1 : w191.cell? ⟨gb267, 1, none⟩ = some (.int .i64 a2_1) := (blk_cell BK267.out 1).trans rfl; have hfz193_0 := blk_frozen BK267.out 0; have hfz193_1 := blk_frozen BK267.out 1) | ((with_reducible refine gate_callee (f := 30) rfl ?_); refine goesL_ (some 431) rfl rfl Try.func30 (by kernel_rfl) rfl #[.int .i64 a0, .agg #[.int .i64 a1_0, .int .i64 a1_1], .agg #[.int .i64 a2_0, .int .i64 a2_1], .int .i64 0] rfl (by (try simp only [List.map_toArray, List.map_cons, List.map_nil]); first | done | rfl | (simp only [List.length_drop, List.length_take]; rfl)) ?_; (with_reducible refine (impl_LeadBetween.calls kj135 a0 a1_0 a1_1 a2_0 a2_1 0 t327 t328 _ A186.out).mono ?_); rintro e w194 ⟨rfl, hb⟩; refine ⟨_, rfl, ?_⟩; have n0_ := Aside0.mk (blk_below (g := gb266) (o := .cells #[.int .i64 a1_0, .int .i64 a1_1] 45 (0, 0)) bk_ hb); have n1_ := Aside0.mk (blk_below (g := gb267) (o := .cells #[.int .i64 a2_0, .int .i64 a2_1] 45 (0, 0)) bk_ hb); have n2_ := Aside0.mk (below_step bw_ hb); clear BK266; clear BK267; clear HB; have BK266 := n0_; have BK267 := n1_; have HB := n2_; clear n0_ n1_ n2_; (try clear hb); (try clear hb2); (try clear hk); (try clear hi)))
              (try simp only [Act.put, List.setIfInBounds_toArray, List.set_cons_zero, List.set_cons_succ])
              go_cut [458] from 434 to 458 (fun v458 wc => ∃ (kq : Nat) (x458_186 : Bool), v458 = .bool x458_186 ∧ Aside0 (laws_FnRunnersMeetOfAll.j9 kq a0 a4 l5 t276 t294 t327 x458_186 a1_0 a1_1 a2_0 a2_1 = some r) ∧ Aside0 (kq ≤ kj135) ∧ Aside0 (wc.heap[gb266]? = some (.cells #[.int .i64 a1_0, .int .i64 a1_1] 45 (0, 0))) ∧ Aside0 (wc.heap[gb267]? = some (.cells #[.int .i64 a2_0, .int .i64 a2_1] 45 (0, 0))) ∧ Aside0 (Below w.heap.size w wc))
              case first => as_aux_lemma =>
               have H := HC187.out
               clear HC187
               by_cases c195 : t326 = true
               ·
                subst c195
                rw [if_pos rfl] at H
                by_cases c196 : t325 = (wrap64 (-t294))
                ·
                 rw [if_pos c196] at H
                 have c196b0 : (t325 == (wrap64 (-t294))) = true := beq_iff_eq.mpr c196
                 have c196b1 : (t325 != (wrap64 (-t294))) = false := bne_eq_false_iff_eq.mpr c196
                 clear c196
                 (first | rw [c196b0] | (simp only [i64_w, i32_w]; rw [c196b0]) | skip)
                 by_cases c197 : t328 = true
                 ·
                  subst c197
                  rw [if_pos rfl] at H
                  have H' := Aside0.mk H
                  clear H
                  have hnb198 := NB266_267.out
                  have hnc198 := NB267_266.out
                  have hcz199_0 : w194.cell? ⟨gb266, 0, none⟩ = some (.int .i64 a1_0) := (blk_cell BK266.out 0).trans rfl
                  have hcz199_1 : w194.cell? ⟨gb266, 1, none⟩ = some (.int .i64 a1_1) := (blk_cell BK266.out 1).trans rfl
                  have hfz199_0 := blk_frozen BK266.out 0
                  have hfz199_1 := blk_frozen BK266.out 1
                  have hcz200_0 : w194.cell? ⟨gb267, 0, none⟩ = some (.int .i64 a2_0) := (blk_cell BK267.out 0).trans rfl
                  have hcz200_1 : w194.cell? ⟨gb267, 1, none⟩ = some (.int .i64 a2_1) := (blk_cell BK267.out 1).trans rfl
                  have hfz200_0 := blk_frozen BK267.out 0
                  have hfz200_1 := blk_frozen BK267.out 1
                  go_wp2
                  go_meet
                  case rel => exact ⟨_, ((t294 != (wrap64 (t327 + (wrap64 ((wrap64 (a1_1 - a2_1)) * a3)))))), (by first | rfl | (simp; done) | (simp [*]; done)), H', ⟨by have := HJ19.out; have := HJ88.out; have := HJ125.out; have := HJ135.out; first | omega | exact Nat.le_refl _⟩, ⟨by (with_reducible repeat (first | refine blk_drewN ?_ _ | refine blk_drew ?_ | refine blk_alloc ?_ _)); exact BK266.out⟩, ⟨by (with_reducible repeat (first | refine blk_drewN ?_ _ | refine blk_drew ?_ | refine blk_alloc ?_ _)); exact BK267.out⟩, ⟨bw_⟩⟩
                 ·
                  replace c197 := Bool.eq_false_iff.mpr c197
                  subst c197
                  rw [if_neg (show ¬ (false = true) by decide)] at H
                  exact absurd (H.trans (congrArg some HRT.out)) (by cases kj135 <;> simp [laws_FnRunnersMeetOfAll.j9])
                ·
                 rw [if_neg c196] at H
                 have c196b0 : (t325 == (wrap64 (-t294))) = false := beq_eq_false_iff_ne.mpr c196
                 have c196b1 : (t325 != (wrap64 (-t294))) = true := bne_iff_ne.mpr c196
                 (first | rw [c196b0] | (simp only [i64_w, i32_w]; rw [c196b0]) | skip)
                 exact absurd (H.trans (congrArg some HRT.out)) (by cases kj135 <;> simp [laws_FnRunnersMeetOfAll.j9])
               ·
                replace c195 := Bool.eq_false_iff.mpr c195
                subst c195
                rw [if_neg (show ¬ (false = true) by decide)] at H
                exact absurd (H.trans (congrArg some HRT.out)) (by cases kj135 <;> simp [laws_FnRunnersMeetOfAll.j9])
              case rest => as_aux_lemma =>
               clear HC187
               (try clear c5); (try clear c7); (try clear c7b0); (try clear c7b1); (try clear c88); (try clear c135); (try clear c184); (try clear hcz189_0); (try clear hcz189_1); (try clear hcz190_0); (try clear hcz190_1); (try clear hcz192_0); (try clear hcz192_1); (try clear hcz193_0); (try clear hcz193_1); (try clear hcz24_0); (try clear hcz24_1); (try clear hcz25_0); (try clear hcz25_1); (try clear hcz27_0); (try clear hcz27_1); (try clear hcz28_0); (try clear hcz28_1); (try clear hcz30_0); (try clear hcz30_1); (try clear hcz31_0); (try clear hcz31_1); (try clear hcz33_0); (try clear hcz33_1); (try clear hcz34_0); (try clear hcz34_1); (try clear hcz36_0); (try clear hcz36_1); (try clear hcz37_0); (try clear hcz37_1); (try clear hcz39_0); (try clear hcz39_1); (try clear hcz40_0); (try clear hcz40_1); (try clear hcz42_0); (try clear hcz42_1); (try clear hcz43_0); (try clear hcz43_1); (try clear hcz45_0); (try clear hcz45_1); (try clear hcz46_0); (try clear hcz46_1); (try clear hcz48_0); (try clear hcz48_1); (try clear hcz49_0); (try clear hcz49_1); (try clear hcz51_0); (try clear hcz51_1); (try clear hcz52_0); (try clear hcz52_1); (try clear hfz189_0); (try clear hfz189_1); (try clear hfz190_0); (try clear hfz190_1); (try clear hfz192_0); (try clear hfz192_1); (try clear hfz193_0); (try clear hfz193_1); (try clear hfz24_0); (try clear hfz24_1); (try clear hfz25_0); (try clear hfz25_1); (try clear hfz27_0); (try clear hfz27_1); (try clear hfz28_0); (try clear hfz28_1); (try clear hfz30_0); (try clear hfz30_1); (try clear hfz31_0); (try clear hfz31_1); (try clear hfz33_0); (try clear hfz33_1); (try clear hfz34_0); (try clear hfz34_1); (try clear hfz36_0); (try clear hfz36_1); (try clear hfz37_0); (try clear hfz37_1); (try clear hfz39_0); (try clear hfz39_1); (try clear hfz40_0); (try clear hfz40_1); (try clear hfz42_0); (try clear hfz42_1); (try clear hfz43_0); (try clear hfz43_1); (try clear hfz45_0); (try clear hfz45_1); (try clear hfz46_0); (try clear hfz46_1); (try clear hfz48_0); (try clear hfz48_1); (try clear hfz49_0); (try clear hfz49_1); (try clear hfz51_0); (try clear hfz51_1); (try clear hfz52_0); (try clear hfz52_1)
               obtain ⟨kq, x458_186, rfl, HA, HJ186, BK266, BK267, HB⟩ := hcut
               cases kq with
               | zero => exact absurd HA.out (by simp [laws_FnRunnersMeetOfAll.j9])
               | succ kj186 =>
                have H := HA.out
                clear HA
                simp only [laws_FnRunnersMeetOfAll.j9] at H
                by_cases c201 : x458_186 = true
                ·
                 subst c201
                 rw [if_pos rfl] at H
                 exact absurd ((Option.some.inj H).trans HRT.out) (by decide)
                ·
                 replace c201 := Bool.eq_false_iff.mpr c201
                 subst c201
                 rw [if_neg (show ¬ (false = true) by decide)] at H
                 have H' := Aside0.mk H
                 clear H
                 go_wp2
                 go_loopg [54, 55] kj186 (fun kq v54 v55 w' => ∃ (x54_6 : Int) (x55_6 : Int), v54 = .int .i64 x54_6 ∧ v55 = .int .i64 x55_6 ∧ Aside0 (laws_FnRunnersMeetOfAll.l2 kq a0 a4 l5 t276 t294 t327 x54_6 x55_6 a1_0 a1_1 a2_0 a2_1 = some r) ∧ Aside0 (kq ≤ kj186) ∧ Aside0 (w'.heap[gb266]? = some (.cells #[.int .i64 a1_0, .int .i64 a1_1] 45 (0, 0))) ∧ Aside0 (w'.heap[gb267]? = some (.cells #[.int .i64 a2_0, .int .i64 a2_1] 45 (0, 0))) ∧ Aside0 (Below w.heap.size w w'))
                 case atStart => exact ⟨(0), ((-1)), (by first | rfl | (simp; done) | (simp [*]; done)), (by first | rfl | (simp; done) | (simp [*]; done)), H', ⟨Nat.le_refl _⟩, ⟨by (with_reducible repeat (first | refine blk_drewN ?_ _ | refine blk_drew ?_ | refine blk_alloc ?_ _)); exact BK266.out⟩, ⟨by (with_reducible repeat (first | refine blk_drewN ?_ _ | refine blk_drew ?_ | refine blk_alloc ?_ _)); exact BK267.out⟩, ⟨bw_⟩⟩
                 case round => as_aux_lemma =>
                  clear H'
                  (try clear c5); (try clear c7); (try clear c7b0); (try clear c7b1); (try clear c88); (try clear c135); (try clear c184); (try clear c201); (try clear hcz189_0); (try clear hcz189_1); (try clear hcz190_0); (try clear hcz190_1); (try clear hcz192_0); (try clear hcz192_1); (try clear hcz193_0); (try clear hcz193_1); (try clear hcz24_0); (try clear hcz24_1); (try clear hcz25_0); (try clear hcz25_1); (try clear hcz27_0); (try clear hcz27_1); (try clear hcz28_0); (try clear hcz28_1); (try clear hcz30_0); (try clear hcz30_1); (try clear hcz31_0); (try clear hcz31_1); (try clear hcz33_0); (try clear hcz33_1); (try clear hcz34_0); (try clear hcz34_1); (try clear hcz36_0); (try clear hcz36_1); (try clear hcz37_0); (try clear hcz37_1); (try clear hcz39_0); (try clear hcz39_1); (try clear hcz40_0); (try clear hcz40_1); (try clear hcz42_0); (try clear hcz42_1); (try clear hcz43_0); (try clear hcz43_1); (try clear hcz45_0); (try clear hcz45_1); (try clear hcz46_0); (try clear hcz46_1); (try clear hcz48_0); (try clear hcz48_1); (try clear hcz49_0); (try clear hcz49_1); (try clear hcz51_0); (try clear hcz51_1); (try clear hcz52_0); (try clear hcz52_1); (try clear hfz189_0); (try clear hfz189_1); (try clear hfz190_0); (try clear hfz190_1); (try clear hfz192_0); (try clear hfz192_1); (try clear hfz193_0); (try clear hfz193_1); (try clear hfz24_0); (try clear hfz24_1); (try clear hfz25_0); (try clear hfz25_1); (try clear hfz27_0); (try clear hfz27_1); (try clear hfz28_0); (try clear hfz28_1); (try clear hfz30_0); (try clear hfz30_1); (try clear hfz31_0); (try clear hfz31_1); (try clear hfz33_0); (try clear hfz33_1); (try clear hfz34_0); (try clear hfz34_1); (try clear hfz36_0); (try clear hfz36_1); (try clear hfz37_0); (try clear hfz37_1); (try clear hfz39_0); (try clear hfz39_1); (try clear hfz40_0); (try clear hfz40_1); (try clear hfz42_0); (try clear hfz42_1); (try clear hfz43_0); (try clear hfz43_1); (try clear hfz45_0); (try clear hfz45_1); (try clear hfz46_0); (try clear hfz46_1); (try clear hfz48_0); (try clear hfz48_1); (try clear hfz49_0); (try clear hfz49_1); (try clear hfz51_0); (try clear hfz51_1); (try clear hfz52_0); (try clear hfz52_1)
                  obtain ⟨x54_6, x55_6, rfl, rfl, HA, HK6, BK266, BK267, HB⟩ := hrel
                  cases gk with
                  | zero => exact absurd HA.out (by simp [laws_FnRunnersMeetOfAll.l2])
                  | succ k6 =>
                   have H := HA.out
                   clear HA
                   simp only [laws_FnRunnersMeetOfAll.l2] at H
                   by_cases c202 : x55_6 ≤ 1
                   ·
                    rw [if_pos c202] at H
                    have c202b0 : decide (x55_6 ≤ 1) = true := decide_eq_true c202
                    clear c202
                    by_cases c203 : t327 ≤ (wrap64 (x55_6 * a0))
                    ·
                     rw [if_pos c203] at H
                     have c203b0 : decide (t327 ≤ (wrap64 (x55_6 * a0))) = true := decide_eq_true c203
                     clear c203
                     by_cases c204 : t294 > (wrap64 (x55_6 * a0))
                     ·
                      rw [if_pos c204] at H
                      have c204b0 : decide ((wrap64 (x55_6 * a0)) < t294) = true := decide_eq_true c204
                      clear c204
                      have H' := Aside0.mk H
                      clear H
                      go_wp2
                      go_roundg k6
                      case measure => have := HJ19.out; have := HJ88.out; have := HJ125.out; have := HJ135.out; have := HJ186.out; have := HK6.out; omega
                      case rel => exact ⟨(wrap64 (x54_6 + 1)), (wrap64 (x55_6 + 1)), (by first | rfl | (simp; done) | (simp [*]; done)), (by first | rfl | (simp; done) | (simp [*]; done)), H', ⟨by have := HJ19.out; have := HJ88.out; have := HJ125.out; have := HJ135.out; have := HJ186.out; have := HK6.out; omega⟩, ⟨by (with_reducible repeat (first | refine blk_drewN ?_ _ | refine blk_drew ?_ | refine blk_alloc ?_ _)); exact BK266.out⟩, ⟨by (with_reducible repeat (first | refine blk_drewN ?_ _ | refine blk_drew ?_ | refine blk_alloc ?_ _)); exact BK267.out⟩, ⟨bw_⟩⟩
                     ·
                      rw [if_neg c204] at H
                      have c204b0 : decide ((wrap64 (x55_6 * a0)) < t294) = false := decide_eq_false c204
                      clear c204
                      have H' := Aside0.mk H
                      clear H
                      go_wp2
                      go_roundg k6
                      case measure => have := HJ19.out; have := HJ88.out; have := HJ125.out; have := HJ135.out; have := HJ186.out; have := HK6.out; omega
                      case rel => exact ⟨(x54_6), (wrap64 (x55_6 + 1)), (by first | rfl | (simp; done) | (simp [*]; done)), (by first | rfl | (simp; done) | (simp [*]; done)), H', ⟨by have := HJ19.out; have := HJ88.out; have := HJ125.out; have := HJ135.out; have := HJ186.out; have := HK6.out; omega⟩, ⟨by (with_reducible repeat (first | refine blk_drewN ?_ _ | refine blk_drew ?_ | refine blk_alloc ?_ _)); exact BK266.out⟩, ⟨by (with_reducible repeat (first | refine blk_drewN ?_ _ | refine blk_drew ?_ | refine blk_alloc ?_ _)); exact BK267.out⟩, ⟨bw_⟩⟩
                    ·
                     rw [if_neg c203] at H
                     have c203b0 : decide (t327 ≤ (wrap64 (x55_6 * a0))) = false := decide_eq_false c203
                     clear c203
                     have H' := Aside0.mk H
                     clear H
                     go_wp2
                     go_roundg k6
                     case measure => have := HJ19.out; have := HJ88.out; have := HJ125.out; have := HJ135.out; have := HJ186.out; have := HK6.out; omega
                     case rel => exact ⟨(x54_6), (wrap64 (x55_6 + 1)), (by first | rfl | (simp; done) | (simp [*]; done)), (by first | rfl | (simp; done) | (simp [*]; done)), H', ⟨by have := HJ19.out; have := HJ88.out; have := HJ125.out; have := HJ135.out; have := HJ186.out; have := HK6.out; omega⟩, ⟨by (with_reducible repeat (first | refine blk_drewN ?_ _ | refine blk_drew ?_ | refine blk_alloc ?_ _)); exact BK266.out⟩, ⟨by (with_reducible repeat (first | refine blk_drewN ?_ _ | refine blk_drew ?_ | refine blk_alloc ?_ _)); exact BK267.out⟩, ⟨bw_⟩⟩
                   ·
                    rw [if_neg c202] at H
                    have c202b0 : decide (x55_6 ≤ 1) = false := decide_eq_false c202
                    clear c202
                    by_cases c205 : t276 < x54_6
                    ·
                     rw [if_pos c205] at H
                     have c205b0 : decide (t276 < x54_6) = true := decide_eq_true c205
                     clear c205
                     exact absurd ((Option.some.inj H).trans HRT.out) (by decide)
                    ·
                     rw [if_neg c205] at H
                     have c205b0 : decide (t276 < x54_6) = false := decide_eq_false c205
                     clear c205
                     by_cases c206 : a1_1 ≤ a2_1
                     ·
                      rw [if_pos c206] at H
                      have c206b0 : decide (a1_1 ≤ a2_1) = true := decide_eq_true c206
                      clear c206
                      by_cases c207 : t276 = 0
                      ·
                       rw [if_pos c207] at H
                       have c207b0 : (t276 == 0) = true := beq_iff_eq.mpr c207
                       have c207b1 : (t276 != 0) = false := bne_eq_false_iff_eq.mpr c207
                       clear c207
                       by_cases c208 : t294 ≤ a0
                       ·
                        rw [if_pos c208] at H
                        have c208b0 : decide (t294 ≤ a0) = true := decide_eq_true c208
                        clear c208
                        by_cases c209 : t276 = x54_6
                        ·
                         rw [if_pos c209] at H
                         have c209b0 : (t276 == x54_6) = true := beq_iff_eq.mpr c209
                         have c209b1 : (t276 != x54_6) = false := bne_eq_false_iff_eq.mpr c209
                         clear c209
                         by_cases c210 : t294 > a0
                         ·
                          rw [if_pos c210] at H
                          have c210b0 : decide (a0 < t294) = true := decide_eq_true c210
                          clear c210
                          by_cases c211 : a0 = 0
                          ·
                           rw [if_pos c211] at H
                           exact absurd H (by simp)
                          ·
                           rw [if_neg c211] at H
                           have c211b0 : (a0 == 0) = false := beq_eq_false_iff_ne.mpr c211
                           have c211b1 : (a0 != 0) = true := bne_iff_ne.mpr c211
                           by_cases c212 : t276 = (wrap64 ((wrap64 (x54_6 + (wrap64 (Int.tdiv (wrap64 (t294 - 1)) a0)))) - 1))
                           ·
                            rw [if_pos c212] at H
                            have c212b0 : (t276 == (wrap64 ((wrap64 (x54_6 + (wrap64 (Int.tdiv (wrap64 (t294 - 1)) a0)))) - 1))) = true := beq_iff_eq.mpr c212
                            have c212b1 : (t276 != (wrap64 ((wrap64 (x54_6 + (wrap64 (Int.tdiv (wrap64 (t294 - 1)) a0)))) - 1))) = false := bne_eq_false_iff_eq.mpr c212
                            clear c212
                            have H' := Aside0.mk H
                            clear H
                            have hnb213 := NB266_267.out
                            have hnc213 := NB267_266.out
                            have hcz214_0 : wr.cell? ⟨gb266, 0, none⟩ = some (.int .i64 a1_0) := (blk_cell BK266.out 0).trans rfl
                            have hcz214_1 : wr.cell? ⟨gb266, 1, none⟩ = some (.int .i64 a1_1) := (blk_cell BK266.out 1).trans rfl
                            have hfz214_0 := blk_frozen BK266.out 0
                            have hfz214_1 := blk_frozen BK266.out 1
                            have hcz215_0 : wr.cell? ⟨gb267, 0, none⟩ = some (.int .i64 a2_0) := (blk_cell BK267.out 0).trans rfl
                            have hcz215_1 : wr.cell? ⟨gb267, 1, none⟩ = some (.int .i64 a2_1) := (blk_cell BK267.out 1).trans rfl
                            have hfz215_0 := blk_frozen BK267.out 0
                            have hfz215_1 := blk_frozen BK267.out 1
                            go_wp2
                            go_meet
                            case rel => exact ⟨_, H', ⟨by have := HJ19.out; have := HJ88.out; have := HJ125.out; have := HJ135.out; have := HJ186.out; have := HK6.out; first | omega | exact Nat.le_refl _⟩, ⟨by (with_reducible repeat (first | refine blk_drewN ?_ _ | refine blk_drew ?_ | refine blk_alloc ?_ _)); exact BK266.out⟩, ⟨by (with_reducible repeat (first | refine blk_drewN ?_ _ | refine blk_drew ?_ | refine blk_alloc ?_ _)); exact BK267.out⟩, ⟨bw_⟩⟩
                           ·
                            rw [if_neg c212] at H
                            have c212b0 : (t276 == (wrap64 ((wrap64 (x54_6 + (wrap64 (Int.tdiv (wrap64 (t294 - 1)) a0)))) - 1))) = false := beq_eq_false_iff_ne.mpr c212
                            have c212b1 : (t276 != (wrap64 ((wrap64 (x54_6 + (wrap64 (Int.tdiv (wrap64 (t294 - 1)) a0)))) - 1))) = true := bne_iff_ne.mpr c212
                            exact absurd ((Option.some.inj H).trans HRT.out) (by decide)
                         ·
                          rw [if_neg c210] at H
                          have c210b0 : decide (a0 < t294) = false := decide_eq_false c210
                          clear c210
                          have H' := Aside0.mk H
                          clear H
                          have hnb216 := NB266_267.out
                          have hnc216 := NB267_266.out
                          have hcz217_0 : wr.cell? ⟨gb266, 0, none⟩ = some (.int .i64 a1_0) := (blk_cell BK266.out 0).trans rfl
                          have hcz217_1 : wr.cell? ⟨gb266, 1, none⟩ = some (.int .i64 a1_1) := (blk_cell BK266.out 1).trans rfl
                          have hfz217_0 := blk_frozen BK266.out 0
                          have hfz217_1 := blk_frozen BK266.out 1
                          have hcz218_0 : wr.cell? ⟨gb267, 0, none⟩ = some (.int .i64 a2_0) := (blk_cell BK267.out 0).trans rfl
                          have hcz218_1 : wr.cell? ⟨gb267, 1, none⟩ = some (.int .i64 a2_1) := (blk_cell BK267.out 1).trans rfl
                          have hfz218_0 := blk_frozen BK267.out 0
                          have hfz218_1 := blk_frozen BK267.out 1
                          go_wp2
                          go_meet
                          case rel => exact ⟨_, H', ⟨by have := HJ19.out; have := HJ88.out; have := HJ125.out; have := HJ135.out; have := HJ186.out; have := HK6.out; first | omega | exact Nat.le_refl _⟩, ⟨by (with_reducible repeat (first | refine blk_drewN ?_ _ | refine blk_drew ?_ | refine blk_alloc ?_ _)); exact BK266.out⟩, ⟨by (with_reducible repeat (first | refine blk_drewN ?_ _ | refine blk_drew ?_ | refine blk_alloc ?_ _)); exact BK267.out⟩, ⟨bw_⟩⟩
                        ·
                         rw [if_neg c209] at H
                         have c209b0 : (t276 == x54_6) = false := beq_eq_false_iff_ne.mpr c209
                         have c209b1 : (t276 != x54_6) = true := bne_iff_ne.mpr c209
                         exact absurd ((Option.some.inj H).trans HRT.out) (by decide)
                       ·
                        rw [if_neg c208] at H
                        have c208b0 : decide (t294 ≤ a0) = false := decide_eq_false c208
                        clear c208
                        by_cases c219 : t294 > a0
                        ·
                         rw [if_pos c219] at H
                         have c219b0 : decide (a0 < t294) = true := decide_eq_true c219
                         clear c219
                         by_cases c220 : a0 = 0
                         ·
                          rw [if_pos c220] at H
                          exact absurd H (by simp)
                         ·
                          rw [if_neg c220] at H
                          have c220b0 : (a0 == 0) = false := beq_eq_false_iff_ne.mpr c220
                          have c220b1 : (a0 != 0) = true := bne_iff_ne.mpr c220
                          by_cases c221 : t276 = (wrap64 ((wrap64 (x54_6 + (wrap64 (Int.tdiv (wrap64 (t294 - 1)) a0)))) - 1))
                          ·
                           rw [if_pos c221] at H
                           have c221b0 : (t276 == (wrap64 ((wrap64 (x54_6 + (wrap64 (Int.tdiv (wrap64 (t294 - 1)) a0)))) - 1))) = true := beq_iff_eq.mpr c221
                           have c221b1 : (t276 != (wrap64 ((wrap64 (x54_6 + (wrap64 (Int.tdiv (wrap64 (t294 - 1)) a0)))) - 1))) = false := bne_eq_false_iff_eq.mpr c221
                           clear c221
                           have H' := Aside0.mk H
                           clear H
                           have hnb222 := NB266_267.out
                           have hnc222 := NB267_266.out
                           have hcz223_0 : wr.cell? ⟨gb266, 0, none⟩ = some (.int .i64 a1_0) := (blk_cell BK266.out 0).trans rfl
                           have hcz223_1 : wr.cell? ⟨gb266, 1, none⟩ = some (.int .i64 a1_1) := (blk_cell BK266.out 1).trans rfl
                           have hfz223_0 := blk_frozen BK266.out 0
                           have hfz223_1 := blk_frozen BK266.out 1
                           have hcz224_0 : wr.cell? ⟨gb267, 0, none⟩ = some (.int .i64 a2_0) := (blk_cell BK267.out 0).trans rfl
                           have hcz224_1 : wr.cell? ⟨gb267, 1, none⟩ = some (.int .i64 a2_1) := (blk_cell BK267.out 1).trans rfl
                           have hfz224_0 := blk_frozen BK267.out 0
                           have hfz224_1 := blk_frozen BK267.out 1
                           go_wp2
                           go_meet
                           case rel => exact ⟨_, H', ⟨by have := HJ19.out; have := HJ88.out; have := HJ125.out; have := HJ135.out; have := HJ186.out; have := HK6.out; first | omega | exact Nat.le_refl _⟩, ⟨by (with_reducible repeat (first | refine blk_drewN ?_ _ | refine blk_drew ?_ | refine blk_alloc ?_ _)); exact BK266.out⟩, ⟨by (with_reducible repeat (first | refine blk_drewN ?_ _ | refine blk_drew ?_ | refine blk_alloc ?_ _)); exact BK267.out⟩, ⟨bw_⟩⟩
                          ·
                           rw [if_neg c221] at H
                           have c221b0 : (t276 == (wrap64 ((wrap64 (x54_6 + (wrap64 (Int.tdiv (wrap64 (t294 - 1)) a0)))) - 1))) = false := beq_eq_false_iff_ne.mpr c221
                           have c221b1 : (t276 != (wrap64 ((wrap64 (x54_6 + (wrap64 (Int.tdiv (wrap64 (t294 - 1)) a0)))) - 1))) = true := bne_iff_ne.mpr c221
                           exact absurd ((Option.some.inj H).trans HRT.out) (by decide)
                        ·
                         rw [if_neg c219] at H
                         have c219b0 : decide (a0 < t294) = false := decide_eq_false c219
                         clear c219
                         have H' := Aside0.mk H
                         clear H
                         have hnb225 := NB266_267.out
                         have hnc225 := NB267_266.out
                         have hcz226_0 : wr.cell? ⟨gb266, 0, none⟩ = some (.int .i64 a1_0) := (blk_cell BK266.out 0).trans rfl
                         have hcz226_1 : wr.cell? ⟨gb266, 1, none⟩ = some (.int .i64 a1_1) := (blk_cell BK266.out 1).trans rfl
                         have hfz226_0 := blk_frozen BK266.out 0
                         have hfz226_1 := blk_frozen BK266.out 1
                         have hcz227_0 : wr.cell? ⟨gb267, 0, none⟩ = some (.int .i64 a2_0) := (blk_cell BK267.out 0).trans rfl
                         have hcz227_1 : wr.cell? ⟨gb267, 1, none⟩ = some (.int .i64 a2_1) := (blk_cell BK267.out 1).trans rfl
                         have hfz227_0 := blk_frozen BK267.out 0
                         have hfz227_1 := blk_frozen BK267.out 1
                         go_wp2
                         go_meet
                         case rel => exact ⟨_, H', ⟨by have := HJ19.out; have := HJ88.out; have := HJ125.out; have := HJ135.out; have := HJ186.out; have := HK6.out; first | omega | exact Nat.le_refl _⟩, ⟨by (with_reducible repeat (first | refine blk_drewN ?_ _ | refine blk_drew ?_ | refine blk_alloc ?_ _)); exact BK266.out⟩, ⟨by (with_reducible repeat (first | refine blk_drewN ?_ _ | refine blk_drew ?_ | refine blk_alloc ?_ _)); exact BK267.out⟩, ⟨bw_⟩⟩
                      ·
                       rw [if_neg c207] at H
                       have c207b0 : (t276 == 0) = false := beq_eq_false_iff_ne.mpr c207
                       have c207b1 : (t276 != 0) = true := bne_iff_ne.mpr c207
                       exact absurd ((Option.some.inj H).trans HRT.out) (by decide)
                     ·
                      rw [if_neg c206] at H
                      have c206b0 : decide (a1_1 ≤ a2_1) = false := decide_eq_false c206
                      clear c206
                      by_cases c228 : t294 ≤ a0
                      ·
                       rw [if_pos c228] at H
                       have c228b0 : decide (t294 ≤ a0) = true := decide_eq_true c228
                       clear c228
                       by_cases c229 : t276 = x54_6
                       ·
                        rw [if_pos c229] at H
                        have c229b0 : (t276 == x54_6) = true := beq_iff_eq.mpr c229
                        have c229b1 : (t276 != x54_6) = false := bne_eq_false_iff_eq.mpr c229
                        clear c229
                        by_cases c230 : t294 > a0
                        ·
                         rw [if_pos c230] at H
                         have c230b0 : decide (a0 < t294) = true := decide_eq_true c230
                         clear c230
                         by_cases c231 : a0 = 0
                         ·
                          rw [if_pos c231] at H
                          exact absurd H (by simp)
                         ·
                          rw [if_neg c231] at H
                          have c231b0 : (a0 == 0) = false := beq_eq_false_iff_ne.mpr c231
                          have c231b1 : (a0 != 0) = true := bne_iff_ne.mpr c231
                          by_cases c232 : t276 = (wrap64 ((wrap64 (x54_6 + (wrap64 (Int.tdiv (wrap64 (t294 - 1)) a0)))) - 1))
                          ·
                           rw [if_pos c232] at H
                           have c232b0 : (t276 == (wrap64 ((wrap64 (x54_6 + (wrap64 (Int.tdiv (wrap64 (t294 - 1)) a0)))) - 1))) = true := beq_iff_eq.mpr c232
                           have c232b1 : (t276 != (wrap64 ((wrap64 (x54_6 + (wrap64 (Int.tdiv (wrap64 (t294 - 1)) a0)))) - 1))) = false := bne_eq_false_iff_eq.mpr c232
                           clear c232
                           have H' := Aside0.mk H
                           clear H
                           have hnb233 := NB266_267.out
                           have hnc233 := NB267_266.out
                           have hcz234_0 : wr.cell? ⟨gb266, 0, none⟩ = some (.int .i64 a1_0) := (blk_cell BK266.out 0).trans rfl
                           have hcz234_1 : wr.cell? ⟨gb266, 1, none⟩ = some (.int .i64 a1_1) := (blk_cell BK266.out 1).trans rfl
                           have hfz234_0 := blk_frozen BK266.out 0
                           have hfz234_1 := blk_frozen BK266.out 1
                           have hcz235_0 : wr.cell? ⟨gb267, 0, none⟩ = some (.int .i64 a2_0) := (blk_cell BK267.out 0).trans rfl
                           have hcz235_1 : wr.cell? ⟨gb267, 1, none⟩ = some (.int .i64 a2_1) := (blk_cell BK267.out 1).trans rfl
                           have hfz235_0 := blk_frozen BK267.out 0
                           have hfz235_1 := blk_frozen BK267.out 1
                           go_wp2
                           go_meet
                           case rel => exact ⟨_, H', ⟨by have := HJ19.out; have := HJ88.out; have := HJ125.out; have := HJ135.out; have := HJ186.out; have := HK6.out; first | omega | exact Nat.le_refl _⟩, ⟨by (with_reducible repeat (first | refine blk_drewN ?_ _ | refine blk_drew ?_ | refine blk_alloc ?_ _)); exact BK266.out⟩, ⟨by (with_reducible repeat (first | refine blk_drewN ?_ _ | refine blk_drew ?_ | refine blk_alloc ?_ _)); exact BK267.out⟩, ⟨bw_⟩⟩
                          ·
                           rw [if_neg c232] at H
                           have c232b0 : (t276 == (wrap64 ((wrap64 (x54_6 + (wrap64 (Int.tdiv (wrap64 (t294 - 1)) a0)))) - 1))) = false := beq_eq_false_iff_ne.mpr c232
                           have c232b1 : (t276 != (wrap64 ((wrap64 (x54_6 + (wrap64 (Int.tdiv (wrap64 (t294 - 1)) a0)))) - 1))) = true := bne_iff_ne.mpr c232
                           exact absurd ((Option.some.inj H).trans HRT.out) (by decide)
                        ·
                         rw [if_neg c230] at H
                         have c230b0 : decide (a0 < t294) = false := decide_eq_false c230
                         clear c230
                         have H' := Aside0.mk H
                         clear H
                         have hnb236 := NB266_267.out
                         have hnc236 := NB267_266.out
                         have hcz237_0 : wr.cell? ⟨gb266, 0, none⟩ = some (.int .i64 a1_0) := (blk_cell BK266.out 0).trans rfl
                         have hcz237_1 : wr.cell? ⟨gb266, 1, none⟩ = some (.int .i64 a1_1) := (blk_cell BK266.out 1).trans rfl
                         have hfz237_0 := blk_frozen BK266.out 0
                         have hfz237_1 := blk_frozen BK266.out 1
                         have hcz238_0 : wr.cell? ⟨gb267, 0, none⟩ = some (.int .i64 a2_0) := (blk_cell BK267.out 0).trans rfl
                         have hcz238_1 : wr.cell? ⟨gb267, 1, none⟩ = some (.int .i64 a2_1) := (blk_cell BK267.out 1).trans rfl
                         have hfz238_0 := blk_frozen BK267.out 0
                         have hfz238_1 := blk_frozen BK267.out 1
                         go_wp2
                         go_meet
                         case rel => exact ⟨_, H', ⟨by have := HJ19.out; have := HJ88.out; have := HJ125.out; have := HJ135.out; have := HJ186.out; have := HK6.out; first | omega | exact Nat.le_refl _⟩, ⟨by (with_reducible repeat (first | refine blk_drewN ?_ _ | refine blk_drew ?_ | refine blk_alloc ?_ _)); exact BK266.out⟩, ⟨by (with_reducible repeat (first | refine blk_drewN ?_ _ | refine blk_drew ?_ | refine blk_alloc ?_ _)); exact BK267.out⟩, ⟨bw_⟩⟩
                       ·
                        rw [if_neg c229] at H
                        have c229b0 : (t276 == x54_6) = false := beq_eq_false_iff_ne.mpr c229
                        have c229b1 : (t276 != x54_6) = true := bne_iff_ne.mpr c229
                        exact absurd ((Option.some.inj H).trans HRT.out) (by decide)
                      ·
                       rw [if_neg c228] at H
                       have c228b0 : decide (t294 ≤ a0) = false := decide_eq_false c228
                       clear c228
                       by_cases c239 : t294 > a0
                       ·
                        rw [if_pos c239] at H
                        have c239b0 : decide (a0 < t294) = true := decide_eq_true c239
                        clear c239
                        by_cases c240 : a0 = 0
                        ·
                         rw [if_pos c240] at H
                         exact absurd H (by simp)
                        ·
                         rw [if_neg c240] at H
                         have c240b0 : (a0 == 0) = false := beq_eq_false_iff_ne.mpr c240
                         have c240b1 : (a0 != 0) = true := bne_iff_ne.mpr c240
                         by_cases c241 : t276 = (wrap64 ((wrap64 (x54_6 + (wrap64 (Int.tdiv (wrap64 (t294 - 1)) a0)))) - 1))
                         ·
                          rw [if_pos c241] at H
                          have c241b0 : (t276 == (wrap64 ((wrap64 (x54_6 + (wrap64 (Int.tdiv (wrap64 (t294 - 1)) a0)))) - 1))) = true := beq_iff_eq.mpr c241
                          have c241b1 : (t276 != (wrap64 ((wrap64 (x54_6 + (wrap64 (Int.tdiv (wrap64 (t294 - 1)) a0)))) - 1))) = false := bne_eq_false_iff_eq.mpr c241
                          clear c241
                          have H' := Aside0.mk H
                          clear H
                          have hnb242 := NB266_267.out
                          have hnc242 := NB267_266.out
                          have hcz243_0 : wr.cell? ⟨gb266, 0, none⟩ = some (.int .i64 a1_0) := (blk_cell BK266.out 0).trans rfl
                          have hcz243_1 : wr.cell? ⟨gb266, 1, none⟩ = some (.int .i64 a1_1) := (blk_cell BK266.out 1).trans rfl
                          have hfz243_0 := blk_frozen BK266.out 0
                          have hfz243_1 := blk_frozen BK266.out 1
                          have hcz244_0 : wr.cell? ⟨gb267, 0, none⟩ = some (.int .i64 a2_0) := (blk_cell BK267.out 0).trans rfl
                          have hcz244_1 : wr.cell? ⟨gb267, 1, none⟩ = some (.int .i64 a2_1) := (blk_cell BK267.out 1).trans rfl
                          have hfz244_0 := blk_frozen BK267.out 0
                          have hfz244_1 := blk_frozen BK267.out 1
                          go_wp2
                          go_meet
                          case rel => exact ⟨_, H', ⟨by have := HJ19.out; have := HJ88.out; have := HJ125.out; have := HJ135.out; have := HJ186.out; have := HK6.out; first | omega | exact Nat.le_refl _⟩, ⟨by (with_reducible repeat (first | refine blk_drewN ?_ _ | refine blk_drew ?_ | refine blk_alloc ?_ _)); exact BK266.out⟩, ⟨by (with_reducible repeat (first | refine blk_drewN ?_ _ | refine blk_drew ?_ | refine blk_alloc ?_ _)); exact BK267.out⟩, ⟨bw_⟩⟩
                         ·
                          rw [if_neg c241] at H
                          have c241b0 : (t276 == (wrap64 ((wrap64 (x54_6 + (wrap64 (Int.tdiv (wrap64 (t294 - 1)) a0)))) - 1))) = false := beq_eq_false_iff_ne.mpr c241
                          have c241b1 : (t276 != (wrap64 ((wrap64 (x54_6 + (wrap64 (Int.tdiv (wrap64 (t294 - 1)) a0)))) - 1))) = true := bne_iff_ne.mpr c241
                          exact absurd ((Option.some.inj H).trans HRT.out) (by decide)
                       ·
                        rw [if_neg c239] at H
                        have c239b0 : decide (a0 < t294) = false := decide_eq_false c239
                        clear c239
                        have H' := Aside0.mk H
                        clear H
                        have hnb245 := NB266_267.out
                        have hnc245 := NB267_266.out
                        have hcz246_0 : wr.cell? ⟨gb266, 0, none⟩ = some (.int .i64 a1_0) := (blk_cell BK266.out 0).trans rfl
                        have hcz246_1 : wr.cell? ⟨gb266, 1, none⟩ = some (.int .i64 a1_1) := (blk_cell BK266.out 1).trans rfl
                        have hfz246_0 := blk_frozen BK266.out 0
                        have hfz246_1 := blk_frozen BK266.out 1
                        have hcz247_0 : wr.cell? ⟨gb267, 0, none⟩ = some (.int .i64 a2_0) := (blk_cell BK267.out 0).trans rfl
                        have hcz247_1 : wr.cell? ⟨gb267, 1, none⟩ = some (.int .i64 a2_1) := (blk_cell BK267.out 1).trans rfl
                        have hfz247_0 := blk_frozen BK267.out 0
                        have hfz247_1 := blk_frozen BK267.out 1
                        go_wp2
                        go_meet
                        case rel => exact ⟨_, H', ⟨by have := HJ19.out; have := HJ88.out; have := HJ125.out; have := HJ135.out; have := HJ186.out; have := HK6.out; first | omega | exact Nat.le_refl _⟩, ⟨by (with_reducible repeat (first | refine blk_drewN ?_ _ | refine blk_drew ?_ | refine blk_alloc ?_ _)); exact BK266.out⟩, ⟨by (with_reducible repeat (first | refine blk_drewN ?_ _ | refine blk_drew ?_ | refine blk_alloc ?_ _)); exact BK267.out⟩, ⟨bw_⟩⟩
             ·
              replace c184 := Bool.eq_false_iff.mpr c184
              subst c184
              rw [if_neg (show ¬ (false = true) by decide)] at H
              have H' := Aside0.mk H
              clear H
              go_wp2
              go_meet
              case rel => exact ⟨_, H', ⟨by have := HJ19.out; have := HJ88.out; have := HJ125.out; have := HJ135.out; first | omega | exact Nat.le_refl _⟩, ⟨by (with_reducible repeat (first | refine blk_drewN ?_ _ | refine blk_drew ?_ | refine blk_alloc ?_ _)); exact BK266.out⟩, ⟨by (with_reducible repeat (first | refine blk_drewN ?_ _ | refine blk_drew ?_ | refine blk_alloc ?_ _)); exact BK267.out⟩, ⟨bw_⟩⟩
end Go.Proofs.Ytgobnhoblofglaa.PFnRunnersMeetOfAll
