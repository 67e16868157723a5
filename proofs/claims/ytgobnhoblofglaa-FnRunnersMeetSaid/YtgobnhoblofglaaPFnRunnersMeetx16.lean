-- Laid by a program of this session's (wip/gen/printp.sh): the functions that the law reaches, each with its walk.
import Derived.Test.YtgobnhoblofglaaPFnRunnersMeetx0
import Derived.Test.YtgobnhoblofglaaPFnRunnersMeetx1
import Derived.Test.YtgobnhoblofglaaPFnRunnersMeetx2
import Derived.Test.YtgobnhoblofglaaPFnRunnersMeetx3
import Derived.Test.YtgobnhoblofglaaPFnRunnersMeetx4
import Derived.Test.YtgobnhoblofglaaPFnRunnersMeetx5
import Derived.Test.YtgobnhoblofglaaPFnRunnersMeetx6
import Derived.Test.YtgobnhoblofglaaPFnRunnersMeetx7
import Derived.Test.YtgobnhoblofglaaPFnRunnersMeetx8
import Derived.Test.YtgobnhoblofglaaPFnRunnersMeetx9
import Derived.Test.YtgobnhoblofglaaPFnRunnersMeetx10
import Derived.Test.YtgobnhoblofglaaPFnRunnersMeetx11
import Derived.Test.YtgobnhoblofglaaPFnRunnersMeetx12
namespace Go.Proofs.Ytgobnhoblofglaa.PFnRunnersMeet
open Go.RowKit Go.Proofs.YtgobnhoblofglaaW.PrintWords Go.Proofs.YtgobnhoblofglaaW.PrintLast Go.Proofs.YtgobnhoblofglaaW.PrintMore
attribute [local go_sem] max2_int min2_int max_two min_two max_three min_three max_four min_four   -- for this text's walks alone
set_option linter.unusedVariables false
set_option linter.unusedSimpArgs false
set_option maxHeartbeats 80000000 in
set_option maxRecDepth 100000 in
theorem laws_FnRunnersMeet.case4 (k : Nat) (A0 : Option Addr) (c0 : Nat) (l0 : List Int) (A1 : Option Addr) (c1 : Nat) (l1 : List Int) (r : Bool) (w : World) : (laws_FnRunnersMeet.part k A0 c0 l0 A1 c1 l1 r w).2.2.2.1 := by
           intro HRT hu45 HR0 HC0 HR1 HC1 A3 t398 t399 t400 t401 t402 t403 A5 t406 t409 A6 t410 t413 A7 t414 t415 A8 t416 t417 A9 t418 t419 t420 A10 t421 t422 t423 A11 t424 t427 A12 t428 t431 A13 t432 t433 A14 t434 t435 A15 z1_ nd z2_ w17 gb404 w18 GW404 GE404 gb405 w19 GW405 GE405 NB404_405 NB405_404 hnb20 hnc20 w23 v407 w26 v411 w29 w32 w35 w38 w41 v425 w44 v429 w47 w50 HO408 HO412 HO426 HO430 z3_ z4_ z5_ z6_ u165 u166 u167 u168 u169 u170 u171 u172 u173 u174 u175 u176 u177 u178 u179 u180 u181 u182 u183 u184 u185 u186 u187 u188 u189 u190 u191 u192 u193 u194 u195 u196 u197 u198 u199 u200 u201 u202 u203 u204 u205 u206 u207 u208 u209 u210 u211 u212 u213 u214 u215 u216 u217 u218 u219 u220 u221 u222 u223 u224 u225 u226 u227 u228 u229 u230 u231 u232 u233 u234 u235 u236 u237 HO_9 z7_ z8_ z9_ z10_ kj15 HJ15 z11_ u4 u32 u33 u34 u35 u36 u240 u241 u242 u243 u244 u245 u246 u247 u248 u249 u250 u251 u252 u253 u254 u255 u256 u257 u258 u259 u260 u261 u262 u263 u264 u265 u266 u267 u268 u269 u270 u271 u272 u273 u274 u275 u276 u277 u278 u279 u280 u281 u282 u283 u284 u285 u286 u287 u288 u289 u290 u291 u292 u293 u294 u295 u296 u297 u298 u299 u300 u301 u302 u303 u304 u305 u306 u307 u308 u309 u310 u311 u312 u313 u314 u315 u316 u317 u318 z12_ z13_ z14_ z15_ kj85 HJ85 wc u319 u320 u321 u322 u323 u324 u325 u326 u327 u328 u329 u330 u331 u332 u333 u334 u335 u336 u337 u338 u339 HO_23 BK404 BK405 HB kj122 HJ122 HC133 z16_ z17_ z18_ z19_ z20_ z21_
           have H := HC133.out
           clear HC133
           by_cases c134 : t427 = true
           ·
            subst c134
            rw [if_pos rfl] at H
            obtain ⟨y448, hy448⟩ : ∃ y_ : List (S45), y_ = (([(⟨t399, t400⟩ : S45), (⟨t401, t402⟩ : S45)] : List (S45))) := ⟨_, rfl⟩
            replace H : ((impl_RunPeriod.f kj122 t398 y448).bind fun bt451 => (if bt451.2 = true then (laws_FnRunnersMeet.j5 kj122 l1 t398 t403 t414 t424 t432 t433 bt451.1 (decide (bt451.1 > t398)) t399 t400 t401 t402) else (laws_FnRunnersMeet.j5 kj122 l1 t398 t403 t414 t424 t432 t433 bt451.1 true t399 t400 t401 t402))) = some r := by first | (rw [hy448]; with_reducible exact H) | (have H2_ := (Option.bind_some _ _).symm.trans H; rw [hy448]; with_reducible exact H2_) | (have H2_ := (Option.bind_some _ _).symm.trans H; with_reducible exact H2_) | with_reducible exact H | (rw [hy448]; exact H) | exact H
            have Ny448 := Aside0.mk hy448
            clear hy448
            replace H := Option.bind_eq_some_iff.mp H
            obtain ⟨⟨t451, t452⟩, A1350, H⟩ := H
            (try dsimp only at H)
            have A135 := Aside0.mk A1350
            clear A1350
            have HC136 := Aside0.mk H
            clear H
            have hnb137 := NB404_405.out
            have hnc137 := NB405_404.out
            have hcz138_0 : wc.cell? ⟨gb404, 0, none⟩ = some (.int .i64 t399) := (blk_cell BK404.out 0).trans rfl
            have hcz138_1 : wc.cell? ⟨gb404, 1, none⟩ = some (.int .i64 t400) := (blk_cell BK404.out 1).trans rfl
            have hfz138_0 := blk_frozen BK404.out 0
            have hfz138_1 := blk_frozen BK404.out 1
            have hcz139_0 : wc.cell? ⟨gb405, 0, none⟩ = some (.int .i64 t401) := (blk_cell BK405.out 0).trans rfl
            have hcz139_1 : wc.cell? ⟨gb405, 1, none⟩ = some (.int .i64 t402) := (blk_cell BK405.out 1).trans rfl
            have hfz139_0 := blk_frozen BK405.out 0
            have hfz139_1 := blk_frozen BK405.out 1
            go_upto_region 31 with (first | ((with_reducible refine gate_dst (N := 346) rfl ?_); (try (refine gate_guard (by rfl) ?_; dsimp only)); refine Kd.R_lit k45 _ 45 ?hg (N := 346) ?hd (xs := ([(⟨t399, t400⟩ : S45), (⟨t401, t402⟩ : S45)] : List (S45))) (inner := [.int .i64 t399, .int .i64 t400, .int .i64 t401, .int .i64 t402]) (ok := fun _ => True) (okp := fun _ => True) ?hr ?hp (fun _ hk => hk) trivial (Below.refl _ _) (Nat.le_refl _) (by simp) ?_; (case hd => rfl); (case hg => rfl); (case hr => first | (go_simp; done) | (go_simp; rfl)); (case hp => exact (Reps.c2 (show Kd.M k45 _ _ _ (⟨t399, t400⟩ : S45) [.int .i64 t399, .int .i64 t400] from (k45_mkM _ _ _ (⟨t399, t400⟩ : S45) )) (Reps.c2 (show Kd.M k45 _ _ _ (⟨t401, t402⟩ : S45) [.int .i64 t401, .int .i64 t402] from (k45_mkM _ _ _ (⟨t401, t402⟩ : S45) )) (Reps.none _ _)))); intro v449 w140 ho141 hb hg_ hnew_; clear hg_ hnew_; (first | rw [← Ny448.out] at ho141 | (simp only [Int.reduceToNat] at ho141; rw [← Ny448.out] at ho141)); have n0_ := Aside0.mk (Kd.R_below (by (with_reducible repeat (first | apply Kd.R_alloc | apply Kd.R_drewN | apply Kd.R_drew)); exact HO_23.out) hb); have n1_ := Aside0.mk (Kd.R_lower (Kd.R_newB (Kd.R_newB ho141 (g := gb404) (o := .cells #[.int .i64 t399, .int .i64 t400] 45 (0, 0)) bk_) (g := gb405) (o := .cells #[.int .i64 t401, .int .i64 t402] 45 (0, 0)) bk_) (below_size bw_)); have n2_ := Aside0.mk (blk_below (g := gb404) (o := .cells #[.int .i64 t399, .int .i64 t400] 45 (0, 0)) bk_ hb); have n3_ := Aside0.mk (blk_below (g := gb405) (o := .cells #[.int .i64 t401, .int .i64 t402] 45 (0, 0)) bk_ hb); have n4_ := Aside0.mk (below_step bw_ hb); clear HO_23; clear BK404; clear BK405; clear HB; have HO_23 := n0_; have HO450 := n1_; have BK404 := n2_; have BK405 := n3_; have HB := n4_; clear n0_ n1_ n2_ n3_ n4_; clear hb ho141; obtain ⟨Ao142, co142, eo142⟩ := Kd.R_slice HO450.out; subst eo142) | ((with_reducible refine gate_callee (f := 36) rfl ?_); refine goesL_ (some 347) rfl rfl Try.func36 (by kernel_rfl) rfl #[.int .i64 t398, .slice Ao142 y448.length co142] rfl (by (try simp only [List.map_toArray, List.map_cons, List.map_nil]); first | done | rfl | (simp only [List.length_drop, List.length_take]; rfl)) ?_; (with_reducible refine (impl_RunPeriod.calls kj122 t398 _ _ y448 t451 t452 _ ?side1 ?side2 A135.out).mono ?_); (case side1 => repeat (first | exact (Kd.R_reads' HO450.out).2.2 | (with_reducible refine Kd.C_alloc ?_ _) | (with_reducible refine Kd.C_drewN ?_ _) | (with_reducible refine Kd.C_drew ?_))); (case side2 => exact (Kd.R_reads' HO450.out).2.1); rintro e w143 ⟨rfl, hb⟩; refine ⟨_, rfl, ?_⟩; have n0_ := Aside0.mk (Kd.R_below (by (with_reducible repeat (first | apply Kd.R_alloc | apply Kd.R_drewN | apply Kd.R_drew)); exact HO_23.out) hb); have n1_ := Aside0.mk (Kd.R_below (by (with_reducible repeat (first | apply Kd.R_alloc | apply Kd.R_drewN | apply Kd.R_drew)); exact HO450.out) hb); have n2_ := Aside0.mk (blk_below (g := gb404) (o := .cells #[.int .i64 t399, .int .i64 t400] 45 (0, 0)) bk_ hb); have n3_ := Aside0.mk (blk_below (g := gb405) (o := .cells #[.int .i64 t401, .int .i64 t402] 45 (0, 0)) bk_ hb); have n4_ := Aside0.mk (below_step bw_ hb); clear HO_23; clear HO450; clear BK404; clear BK405; clear HB; have HO_23 := n0_; have HO450 := n1_; have BK404 := n2_; have BK405 := n3_; have HB := n4_; clear n0_ n1_ n2_ n3_ n4_; (try clear hb); (try clear hb2); (try clear hk); (try clear hi)))
            (try simp only [Act.put, List.setIfInBounds_toArray, List.set_cons_zero, List.set_cons_succ])
            go_cut [356] from 350 to 356 (fun v356 wc => ∃ (kq : Nat) (x356_135 : Bool), v356 = .bool x356_135 ∧ Aside0 (laws_FnRunnersMeet.j5 kq l1 t398 t403 t414 t424 t432 t433 t451 x356_135 t399 t400 t401 t402 = some r) ∧ Aside0 (kq ≤ kj122) ∧ Aside0 (Kd.R (Kd.int .i64) 3 wc w.heap.size (fun _ => True) v425 t424) ∧ Aside0 (wc.heap[gb404]? = some (.cells #[.int .i64 t399, .int .i64 t400] 45 (0, 0))) ∧ Aside0 (wc.heap[gb405]? = some (.cells #[.int .i64 t401, .int .i64 t402] 45 (0, 0))) ∧ Aside0 (Below w.heap.size w wc))
            case first => as_aux_lemma =>
             have H := HC136.out
             clear HC136
             by_cases c144 : t452 = true
             ·
              subst c144
              rw [if_pos rfl] at H
              have H' := Aside0.mk H
              clear H
              go_wp2
              go_meet
              case rel => exact ⟨_, (decide (t451 > t398)), (by first | rfl | (simp; done) | (simp [*]; done)), H', ⟨by have := HJ15.out; have := HJ85.out; have := HJ122.out; first | omega | exact Nat.le_refl _⟩, ⟨by (with_reducible repeat (first | apply Kd.R_alloc | apply Kd.R_drewN | apply Kd.R_drew)); exact HO_23.out⟩, ⟨bk_⟩, ⟨bk_⟩, ⟨bw_⟩⟩
             ·
              replace c144 := Bool.eq_false_iff.mpr c144
              subst c144
              rw [if_neg (show ¬ (false = true) by decide)] at H
              exact absurd (H.trans (congrArg some HRT.out)) (by cases kj122 <;> simp [laws_FnRunnersMeet.j5])
            case rest => as_aux_lemma =>
             clear HC136
             (try clear c1); (try clear c2); (try clear c4); (try clear c85); (try clear c132); (try clear c134); (try clear hcz138_0); (try clear hcz138_1); (try clear hcz139_0); (try clear hcz139_1); (try clear hcz21_0); (try clear hcz21_1); (try clear hcz22_0); (try clear hcz22_1); (try clear hcz24_0); (try clear hcz24_1); (try clear hcz25_0); (try clear hcz25_1); (try clear hcz27_0); (try clear hcz27_1); (try clear hcz28_0); (try clear hcz28_1); (try clear hcz30_0); (try clear hcz30_1); (try clear hcz31_0); (try clear hcz31_1); (try clear hcz33_0); (try clear hcz33_1); (try clear hcz34_0); (try clear hcz34_1); (try clear hcz36_0); (try clear hcz36_1); (try clear hcz37_0); (try clear hcz37_1); (try clear hcz39_0); (try clear hcz39_1); (try clear hcz40_0); (try clear hcz40_1); (try clear hcz42_0); (try clear hcz42_1); (try clear hcz43_0); (try clear hcz43_1); (try clear hcz45_0); (try clear hcz45_1); (try clear hcz46_0); (try clear hcz46_1); (try clear hcz48_0); (try clear hcz48_1); (try clear hcz49_0); (try clear hcz49_1); (try clear hfz138_0); (try clear hfz138_1); (try clear hfz139_0); (try clear hfz139_1); (try clear hfz21_0); (try clear hfz21_1); (try clear hfz22_0); (try clear hfz22_1); (try clear hfz24_0); (try clear hfz24_1); (try clear hfz25_0); (try clear hfz25_1); (try clear hfz27_0); (try clear hfz27_1); (try clear hfz28_0); (try clear hfz28_1); (try clear hfz30_0); (try clear hfz30_1); (try clear hfz31_0); (try clear hfz31_1); (try clear hfz33_0); (try clear hfz33_1); (try clear hfz34_0); (try clear hfz34_1); (try clear hfz36_0); (try clear hfz36_1); (try clear hfz37_0); (try clear hfz37_1); (try clear hfz39_0); (try clear hfz39_1); (try clear hfz40_0); (try clear hfz40_1); (try clear hfz42_0); (try clear hfz42_1); (try clear hfz43_0); (try clear hfz43_1); (try clear hfz45_0); (try clear hfz45_1); (try clear hfz46_0); (try clear hfz46_1); (try clear hfz48_0); (try clear hfz48_1); (try clear hfz49_0); (try clear hfz49_1)
             obtain ⟨kq, x356_135, rfl, HA, HJ135, HO_23, BK404, BK405, HB⟩ := hcut
             cases kq with
             | zero => exact absurd HA.out (by simp [laws_FnRunnersMeet.j5])
             | succ kj135 =>
              have H := HA.out
              clear HA
              simp only [laws_FnRunnersMeet.j5] at H
              by_cases c145 : x356_135 = true
              ·
               subst c145
               rw [if_pos rfl] at H
               exact absurd ((Option.some.inj H).trans HRT.out) (by decide)
              ·
               replace c145 := Bool.eq_false_iff.mpr c145
               subst c145
               rw [if_neg (show ¬ (false = true) by decide)] at H
               by_cases c146 : 0 ≤ t398
               ·
                rw [if_pos c146] at H
                have c146b0 := eq_true c146
                have c146b1 : decide (0 ≤ t398) = true := decide_eq_true c146
                clear c146
                by_cases c147 : (t398 : Int).toNat ≤ 281474976710656
                ·
                 rw [if_pos c147] at H
                 have c147b0 := eq_true c147
                 have c147b1 : decide ((t398 : Int).toNat ≤ 281474976710656) = true := decide_eq_true c147
                 clear c147
                 obtain ⟨y453, hy453⟩ : ∃ y_ : List Bool, y_ = (List.replicate (t398 : Int).toNat false) := ⟨_, rfl⟩
                 replace H : (laws_FnRunnersMeet.l1 kj135 l1 t398 t403 t414 t424 t432 t433 t451 y453 0 0 t399 t400 t401 t402) = some r := by first | (rw [hy453]; with_reducible exact H) | (have H2_ := (Option.bind_some _ _).symm.trans H; rw [hy453]; with_reducible exact H2_) | (have H2_ := (Option.bind_some _ _).symm.trans H; with_reducible exact H2_) | with_reducible exact H | (rw [hy453]; exact H) | exact H
                 have Ny453 := Aside0.mk hy453
                 clear hy453
                 have H' := Aside0.mk H
                 clear H
                 go_wp2_with (first | ((with_reducible refine gate_dst (N := 358) rfl ?_); (try (refine gate_guard (by rfl) ?_; dsimp only)); refine Kd.R_make Kd.bool _ 4 rfl (N := 358) rfl 56 _ _ rfl t398 rfl rfl Try.underlying56 (.bool false) 1 info4 rfl (by decide) (by omega) false (ok := fun _ => True) (okp := fun _ => True) rfl (fun _ hk => hk) trivial (of_decide_eq_true (by first | (with_reducible assumption) | assumption)) (Nat.le_trans (Nat.mul_le_mul_right _ (of_decide_eq_true (by first | (with_reducible assumption) | assumption) : t398.toNat ≤ 281474976710656)) (by omega)) (Below.refl _ _) (Nat.le_refl _) ?_; intro v454 w148 ho149 hb hg_ hnew_; clear hg_ hnew_; (first | rw [← Ny453.out] at ho149 | (simp only [Int.reduceToNat] at ho149; rw [← Ny453.out] at ho149)); have n0_ := Aside0.mk (Kd.R_below (by (with_reducible repeat (first | apply Kd.R_alloc | apply Kd.R_drewN | apply Kd.R_drew)); exact HO_23.out) hb); have n1_ := Aside0.mk (Kd.R_lower ho149 (below_size bw_)); have n2_ := Aside0.mk (blk_below (g := gb404) (o := .cells #[.int .i64 t399, .int .i64 t400] 45 (0, 0)) bk_ hb); have n3_ := Aside0.mk (blk_below (g := gb405) (o := .cells #[.int .i64 t401, .int .i64 t402] 45 (0, 0)) bk_ hb); have n4_ := Aside0.mk (below_step bw_ hb); clear HO_23; clear BK404; clear BK405; clear HB; have HO_23 := n0_; have HO455 := n1_; have BK404 := n2_; have BK405 := n3_; have HB := n4_; clear n0_ n1_ n2_ n3_ n4_; clear hb ho149))
                 go_loopg [40, 41] kj135 (fun kq v40 v41 w' => ∃ (x39_5 : List Bool) (x40_5 : Int) (x41_5 : Int), v40 = .int .i64 x40_5 ∧ v41 = .int .i64 x41_5 ∧ Aside0 (laws_FnRunnersMeet.l1 kq l1 t398 t403 t414 t424 t432 t433 t451 x39_5 x40_5 x41_5 t399 t400 t401 t402 = some r) ∧ Aside0 (kq ≤ kj135) ∧ Aside0 (Kd.R (Kd.int .i64) 3 w' w.heap.size (fun _ => True) v425 t424) ∧ Aside0 (Kd.R Kd.bool 4 w' w.heap.size (fun _ => True) v454 x39_5) ∧ Aside0 (w'.heap[gb404]? = some (.cells #[.int .i64 t399, .int .i64 t400] 45 (0, 0))) ∧ Aside0 (w'.heap[gb405]? = some (.cells #[.int .i64 t401, .int .i64 t402] 45 (0, 0))) ∧ Aside0 (Below w.heap.size w w'))
                 case atStart => exact ⟨(y453), (0), (0), (by first | rfl | (simp; done) | (simp [*]; done)), (by first | rfl | (simp; done) | (simp [*]; done)), H', ⟨Nat.le_refl _⟩, ⟨by (with_reducible repeat (first | apply Kd.R_alloc | apply Kd.R_drewN | apply Kd.R_drew)); exact HO_23.out⟩, ⟨by (with_reducible repeat (first | apply Kd.R_alloc | apply Kd.R_drewN | apply Kd.R_drew)); exact HO455.out⟩, ⟨bk_⟩, ⟨bk_⟩, ⟨bw_⟩⟩
                 case round => as_aux_lemma =>
                  clear H'
                  (try clear c1); (try clear c2); (try clear c4); (try clear c85); (try clear c132); (try clear c134); (try clear c145); (try clear c146); (try clear c146b0); (try clear c146b1); (try clear c147); (try clear c147b0); (try clear c147b1); (try clear hcz138_0); (try clear hcz138_1); (try clear hcz139_0); (try clear hcz139_1); (try clear hcz21_0); (try clear hcz21_1); (try clear hcz22_0); (try clear hcz22_1); (try clear hcz24_0); (try clear hcz24_1); (try clear hcz25_0); (try clear hcz25_1); (try clear hcz27_0); (try clear hcz27_1); (try clear hcz28_0); (try clear hcz28_1); (try clear hcz30_0); (try clear hcz30_1); (try clear hcz31_0); (try clear hcz31_1); (try clear hcz33_0); (try clear hcz33_1); (try clear hcz34_0); (try clear hcz34_1); (try clear hcz36_0); (try clear hcz36_1); (try clear hcz37_0); (try clear hcz37_1); (try clear hcz39_0); (try clear hcz39_1); (try clear hcz40_0); (try clear hcz40_1); (try clear hcz42_0); (try clear hcz42_1); (try clear hcz43_0); (try clear hcz43_1); (try clear hcz45_0); (try clear hcz45_1); (try clear hcz46_0); (try clear hcz46_1); (try clear hcz48_0); (try clear hcz48_1); (try clear hcz49_0); (try clear hcz49_1); (try clear hfz138_0); (try clear hfz138_1); (try clear hfz139_0); (try clear hfz139_1); (try clear hfz21_0); (try clear hfz21_1); (try clear hfz22_0); (try clear hfz22_1); (try clear hfz24_0); (try clear hfz24_1); (try clear hfz25_0); (try clear hfz25_1); (try clear hfz27_0); (try clear hfz27_1); (try clear hfz28_0); (try clear hfz28_1); (try clear hfz30_0); (try clear hfz30_1); (try clear hfz31_0); (try clear hfz31_1); (try clear hfz33_0); (try clear hfz33_1); (try clear hfz34_0); (try clear hfz34_1); (try clear hfz36_0); (try clear hfz36_1); (try clear hfz37_0); (try clear hfz37_1); (try clear hfz39_0); (try clear hfz39_1); (try clear hfz40_0); (try clear hfz40_1); (try clear hfz42_0); (try clear hfz42_1); (try clear hfz43_0); (try clear hfz43_1); (try clear hfz45_0); (try clear hfz45_1); (try clear hfz46_0); (try clear hfz46_1); (try clear hfz48_0); (try clear hfz48_1); (try clear hfz49_0); (try clear hfz49_1)
                  obtain ⟨x39_5, x40_5, x41_5, rfl, rfl, HA, HK5, HO_23, HO_39, BK404, BK405, HB⟩ := hrel
                  cases gk with
                  | zero => exact absurd HA.out (by simp [laws_FnRunnersMeet.l1])
                  | succ k5 =>
                   have H := HA.out
                   clear HA
                   simp only [laws_FnRunnersMeet.l1] at H
                   by_cases c150 : x41_5 < t451
                   ·
                    rw [if_pos c150] at H
                    have c150b0 : decide (x41_5 < t451) = true := decide_eq_true c150
                    clear c150
                    replace H := Option.bind_eq_some_iff.mp H
                    obtain ⟨⟨t456, t457⟩, A1510, H⟩ := H
                    (try dsimp only at H)
                    have A151 := Aside0.mk A1510
                    clear A1510
                    replace H := Option.bind_eq_some_iff.mp H
                    obtain ⟨⟨t458, t459⟩, A1520, H⟩ := H
                    (try dsimp only at H)
                    have A152 := Aside0.mk A1520
                    clear A1520
                    have HC153 := Aside0.mk H
                    clear H
                    have hnb154 := NB404_405.out
                    have hnc154 := NB405_404.out
                    have hcz155_0 : wr.cell? ⟨gb404, 0, none⟩ = some (.int .i64 t399) := (blk_cell BK404.out 0).trans rfl
                    have hcz155_1 : wr.cell? ⟨gb404, 1, none⟩ = some (.int .i64 t400) := (blk_cell BK404.out 1).trans rfl
                    have hfz155_0 := blk_frozen BK404.out 0
                    have hfz155_1 := blk_frozen BK404.out 1
                    go_upto_region 40 with (first | ((with_reducible refine gate_callee (f := 34) rfl ?_); refine goesL_ (some 368) rfl rfl Try.func34 (by kernel_rfl) rfl #[.int .i64 t398, .agg #[.int .i64 t399, .int .i64 t400], .int .i64 x41_5] rfl (by (try simp only [List.map_toArray, List.map_cons, List.map_nil]); first | done | rfl | (simp only [List.length_drop, List.length_take]; rfl)) ?_; (with_reducible refine (impl_PlaceOnTrack.calls t398 t399 t400 x41_5 t456 t457 _ A151.out).mono ?_); rintro e w156 ⟨rfl, hb⟩; refine ⟨_, rfl, ?_⟩; have n0_ := Aside0.mk (Kd.R_below (by (with_reducible repeat (first | apply Kd.R_alloc | apply Kd.R_drewN | apply Kd.R_drew)); exact HO_23.out) hb); have n1_ := Aside0.mk (Kd.R_below (by (with_reducible repeat (first | apply Kd.R_alloc | apply Kd.R_drewN | apply Kd.R_drew)); exact HO_39.out) hb); have n2_ := Aside0.mk (blk_below (g := gb404) (o := .cells #[.int .i64 t399, .int .i64 t400] 45 (0, 0)) bk_ hb); have n3_ := Aside0.mk (blk_below (g := gb405) (o := .cells #[.int .i64 t401, .int .i64 t402] 45 (0, 0)) bk_ hb); have n4_ := Aside0.mk (below_step bw_ hb); clear HO_23; clear HO_39; clear BK404; clear BK405; clear HB; have HO_23 := n0_; have HO_39 := n1_; have BK404 := n2_; have BK405 := n3_; have HB := n4_; clear n0_ n1_ n2_ n3_ n4_; (try clear hb); (try clear hb2); (try clear hk); (try clear hi); have hcz157_0 : w156.cell? ⟨gb405, 0, none⟩ = some (.int .i64 t401) := (blk_cell BK405.out 0).trans rfl; have hcz157_1 : w156.cell? ⟨gb405, 1, none⟩ = some (.int .i64 t402) := (blk_cell BK405.out 1).trans rfl; have hfz157_0 := blk_frozen BK405.out 0; have hfz157_1 := blk_frozen BK405.out 1) | ((with_reducible refine gate_callee (f := 34) rfl ?_); refine goesL_ (some 375) rfl rfl Try.func34 (by kernel_rfl) rfl #[.int .i64 t398, .agg #[.int .i64 t401, .int .i64 t402], .int .i64 x41_5] rfl (by (try simp only [List.map_toArray, List.map_cons, List.map_nil]); first | done | rfl | (simp only [List.length_drop, List.length_take]; rfl)) ?_; (with_reducible refine (impl_PlaceOnTrack.calls t398 t401 t402 x41_5 t458 t459 _ A152.out).mono ?_); rintro e w158 ⟨rfl, hb⟩; refine ⟨_, rfl, ?_⟩; have n0_ := Aside0.mk (Kd.R_below (by (with_reducible repeat (first | apply Kd.R_alloc | apply Kd.R_drewN | apply Kd.R_drew)); exact HO_23.out) hb); have n1_ := Aside0.mk (Kd.R_below (by (with_reducible repeat (first | apply Kd.R_alloc | apply Kd.R_drewN | apply Kd.R_drew)); exact HO_39.out) hb); have n2_ := Aside0.mk (blk_below (g := gb404) (o := .cells #[.int .i64 t399, .int .i64 t400] 45 (0, 0)) bk_ hb); have n3_ := Aside0.mk (blk_below (g := gb405) (o := .cells #[.int .i64 t401, .int .i64 t402] 45 (0, 0)) bk_ hb); have n4_ := Aside0.mk (below_step bw_ hb); clear HO_23; clear HO_39; clear BK404; clear BK405; clear HB; have HO_23 := n0_; have HO_39 := n1_; have BK404 := n2_; have BK405 := n3_; have HB := n4_; clear n0_ n1_ n2_ n3_ n4_; (try clear hb); (try clear hb2); (try clear hk); (try clear hi)))
                    (try simp only [Act.put, List.setIfInBounds_toArray, List.set_cons_zero, List.set_cons_succ])
                    go_cut [403] from 378 to 403 (fun v403 wc => ∃ (kq : Nat) (x403_152 : Bool), v403 = .bool x403_152 ∧ Aside0 (laws_FnRunnersMeet.j7 kq l1 t398 t403 t414 t424 t432 t433 t451 x39_5 x40_5 x41_5 t456 t458 x403_152 t399 t400 t401 t402 = some r) ∧ Aside0 (kq ≤ k5) ∧ Aside0 (Kd.R (Kd.int .i64) 3 wc w.heap.size (fun _ => True) v425 t424) ∧ Aside0 (Kd.R Kd.bool 4 wc w.heap.size (fun _ => True) v454 x39_5) ∧ Aside0 (wc.heap[gb404]? = some (.cells #[.int .i64 t399, .int .i64 t400] 45 (0, 0))) ∧ Aside0 (wc.heap[gb405]? = some (.cells #[.int .i64 t401, .int .i64 t402] 45 (0, 0))) ∧ Aside0 (Below w.heap.size w wc))
                    case first => as_aux_lemma =>
                     have H := HC153.out
                     clear HC153
                     by_cases c159 : t457 = true
                     ·
                      subst c159
                      rw [if_pos rfl] at H
                      by_cases c160 : t459 = true
                      ·
                       subst c160
                       rw [if_pos rfl] at H
                       by_cases c161 : t456 = t458
                       ·
                        rw [if_pos c161] at H
                        have c161b0 : (t456 == t458) = true := beq_iff_eq.mpr c161
                        have c161b1 : (t456 != t458) = false := bne_eq_false_iff_eq.mpr c161
                        clear c161
                        (first | rw [c161b0] | (simp only [i64_w, i32_w]; rw [c161b0]) | skip)
                        replace H := Option.bind_eq_some_iff.mp H
                        obtain ⟨t460, A1620, H⟩ := H
                        (try dsimp only at H)
                        have A162 := Aside0.mk A1620
                        clear A1620
                        by_cases c163 : t460 = true
                        ·
                         subst c163
                         rw [if_pos rfl] at H
                         by_cases c164 : t456 < 0
                         ·
                          rw [if_pos c164] at H
                          have c164b0 : decide (t456 < 0) = true := decide_eq_true c164
                          clear c164
                          exact absurd (H.trans (congrArg some HRT.out)) (by cases k5 <;> simp [laws_FnRunnersMeet.j7])
                         ·
                          rw [if_neg c164] at H
                          have c164b0 : decide (t456 < 0) = false := decide_eq_false c164
                          clear c164
                          have H' := Aside0.mk H
                          clear H
                          obtain ⟨Ao165, co165, eo165⟩ := Kd.R_slice HO_23.out
                          subst eo165
                          go_wp2_with (first | (go_at_call 35; (with_reducible refine (laws_qHas.calls k5 _ _ t424 t456 true _ ?side1 ?side2 A162.out).mono ?_); (case side1 => repeat (first | exact (Kd.R_reads' HO_23.out).2.2 | (with_reducible refine Kd.C_alloc ?_ _) | (with_reducible refine Kd.C_drewN ?_ _) | (with_reducible refine Kd.C_drew ?_))); (case side2 => exact (Kd.R_reads' HO_23.out).2.1); rintro e w' ⟨rfl, ⟨nd, rfl⟩⟩))
                          go_meet
                          case rel => exact ⟨_, (decide (t456 ≥ t398)), (by first | rfl | (simp; done) | (simp [*]; done)), H', ⟨by have := HJ15.out; have := HJ85.out; have := HJ122.out; have := HJ135.out; have := HK5.out; first | omega | exact Nat.le_refl _⟩, ⟨by (with_reducible repeat (first | apply Kd.R_alloc | apply Kd.R_drewN | apply Kd.R_drew)); exact HO_23.out⟩, ⟨by (with_reducible repeat (first | apply Kd.R_alloc | apply Kd.R_drewN | apply Kd.R_drew)); exact HO_39.out⟩, ⟨bk_⟩, ⟨bk_⟩, ⟨bw_⟩⟩
                        ·
                         replace c163 := Bool.eq_false_iff.mpr c163
                         subst c163
                         rw [if_neg (show ¬ (false = true) by decide)] at H
                         exact absurd (H.trans (congrArg some HRT.out)) (by cases k5 <;> simp [laws_FnRunnersMeet.j7])
                       ·
                        rw [if_neg c161] at H
                        have c161b0 : (t456 == t458) = false := beq_eq_false_iff_ne.mpr c161
                        have c161b1 : (t456 != t458) = true := bne_iff_ne.mpr c161
                        (first | rw [c161b0] | (simp only [i64_w, i32_w]; rw [c161b0]) | skip)
                        by_cases c166 : t456 < 0
                        ·
                         rw [if_pos c166] at H
                         have c166b0 : decide (t456 < 0) = true := decide_eq_true c166
                         clear c166
                         exact absurd (H.trans (congrArg some HRT.out)) (by cases k5 <;> simp [laws_FnRunnersMeet.j7])
                        ·
                         rw [if_neg c166] at H
                         have c166b0 : decide (t456 < 0) = false := decide_eq_false c166
                         clear c166
                         have H' := Aside0.mk H
                         clear H
                         go_wp2
                         go_meet
                         case rel => exact ⟨_, (decide (t456 ≥ t398)), (by first | rfl | (simp; done) | (simp [*]; done)), H', ⟨by have := HJ15.out; have := HJ85.out; have := HJ122.out; have := HJ135.out; have := HK5.out; first | omega | exact Nat.le_refl _⟩, ⟨by (with_reducible repeat (first | apply Kd.R_alloc | apply Kd.R_drewN | apply Kd.R_drew)); exact HO_23.out⟩, ⟨by (with_reducible repeat (first | apply Kd.R_alloc | apply Kd.R_drewN | apply Kd.R_drew)); exact HO_39.out⟩, ⟨bk_⟩, ⟨bk_⟩, ⟨bw_⟩⟩
                      ·
                       replace c160 := Bool.eq_false_iff.mpr c160
                       subst c160
                       rw [if_neg (show ¬ (false = true) by decide)] at H
                       exact absurd (H.trans (congrArg some HRT.out)) (by cases k5 <;> simp [laws_FnRunnersMeet.j7])
                     ·
                      replace c159 := Bool.eq_false_iff.mpr c159
                      subst c159
                      rw [if_neg (show ¬ (false = true) by decide)] at H
                      exact absurd (H.trans (congrArg some HRT.out)) (by cases k5 <;> simp [laws_FnRunnersMeet.j7])
                    case rest => as_aux_lemma =>
                     clear HC153
                     (try clear c1); (try clear c2); (try clear c4); (try clear c85); (try clear c132); (try clear c134); (try clear c145); (try clear c146); (try clear c146b0); (try clear c146b1); (try clear c147); (try clear c147b0); (try clear c147b1); (try clear c150); (try clear c150b0); (try clear hcz138_0); (try clear hcz138_1); (try clear hcz139_0); (try clear hcz139_1); (try clear hcz155_0); (try clear hcz155_1); (try clear hcz157_0); (try clear hcz157_1); (try clear hcz21_0); (try clear hcz21_1); (try clear hcz22_0); (try clear hcz22_1); (try clear hcz24_0); (try clear hcz24_1); (try clear hcz25_0); (try clear hcz25_1); (try clear hcz27_0); (try clear hcz27_1); (try clear hcz28_0); (try clear hcz28_1); (try clear hcz30_0); (try clear hcz30_1); (try clear hcz31_0); (try clear hcz31_1); (try clear hcz33_0); (try clear hcz33_1); (try clear hcz34_0); (try clear hcz34_1); (try clear hcz36_0); (try clear hcz36_1); (try clear hcz37_0); (try clear hcz37_1); (try clear hcz39_0); (try clear hcz39_1); (try clear hcz40_0); (try clear hcz40_1); (try clear hcz42_0); (try clear hcz42_1); (try clear hcz43_0); (try clear hcz43_1); (try clear hcz45_0); (try clear hcz45_1); (try clear hcz46_0); (try clear hcz46_1); (try clear hcz48_0); (try clear hcz48_1); (try clear hcz49_0); (try clear hcz49_1); (try clear hfz138_0); (try clear hfz138_1); (try clear hfz139_0); (try clear hfz139_1); (try clear hfz155_0); (try clear hfz155_1); (try clear hfz157_0); (try clear hfz157_1); (try clear hfz21_0); (try clear hfz21_1); (try clear hfz22_0); (try clear hfz22_1); (try clear hfz24_0); (try clear hfz24_1); (try clear hfz25_0); (try clear hfz25_1); (try clear hfz27_0); (try clear hfz27_1); (try clear hfz28_0); (try clear hfz28_1); (try clear hfz30_0); (try clear hfz30_1); (try clear hfz31_0); (try clear hfz31_1); (try clear hfz33_0); (try clear hfz33_1); (try clear hfz34_0); (try clear hfz34_1); (try clear hfz36_0); (try clear hfz36_1); (try clear hfz37_0); (try clear hfz37_1); (try clear hfz39_0); (try clear hfz39_1); (try clear hfz40_0); (try clear hfz40_1); (try clear hfz42_0); (try clear hfz42_1); (try clear hfz43_0); (try clear hfz43_1); (try clear hfz45_0); (try clear hfz45_1); (try clear hfz46_0); (try clear hfz46_1); (try clear hfz48_0); (try clear hfz48_1); (try clear hfz49_0); (try clear hfz49_1)
                     obtain ⟨kq, x403_152, rfl, HA, HJ152, HO_23, HO_39, BK404, BK405, HB⟩ := hcut
                     cases kq with
                     | zero => exact absurd HA.out (by simp [laws_FnRunnersMeet.j7])
                     | succ kj152 =>
                      have H := HA.out
                      clear HA
                      simp only [laws_FnRunnersMeet.j7] at H
                      by_cases c167 : x403_152 = true
                      ·
                       subst c167
                       rw [if_pos rfl] at H
                       exact absurd ((Option.some.inj H).trans HRT.out) (by decide)
                      ·
                       replace c167 := Bool.eq_false_iff.mpr c167
                       subst c167
                       rw [if_neg (show ¬ (false = true) by decide)] at H
                       by_cases c168 : t456 = t458
                       ·
                        rw [if_pos c168] at H
                        have c168b0 : (t456 == t458) = true := beq_iff_eq.mpr c168
                        have c168b1 : (t456 != t458) = false := bne_eq_false_iff_eq.mpr c168
                        clear c168
                        by_cases c169 : 0 ≤ t456
                        ·
                         rw [if_pos c169] at H
                         have c169b0 : decide (0 ≤ t456) = true := decide_eq_true c169
                         clear c169
                         by_cases c170 : t456 < (x39_5.length : Int)
                         ·
                          rw [if_pos c170] at H
                          have c170b0 : decide (t456 < (x39_5.length : Int)) = true := decide_eq_true c170
                          clear c170
                          obtain ⟨bq171, hbq171⟩ : ∃ b_ : Bool, b_ = (rdOf false x39_5 t456) := ⟨_, rfl⟩
                          replace H : (if bq171 = true then (laws_FnRunnersMeet.l1 kj152 l1 t398 t403 t414 t424 t432 t433 t451 x39_5 x40_5 (wrap64 (x41_5 + 1)) t399 t400 t401 t402) else (laws_FnRunnersMeet.l1 kj152 l1 t398 t403 t414 t424 t432 t433 t451 (x39_5.set (t456 : Int).toNat true) (wrap64 (x40_5 + 1)) (wrap64 (x41_5 + 1)) t399 t400 t401 t402)) = some r := by rw [← hbq171] at H; exact H
                          have Nbq171 := Aside0.mk hbq171
                          clear hbq171
                          by_cases c172 : bq171 = true
                          ·
                           subst c172
                           rw [if_pos rfl] at H
                           have H' := Aside0.mk H
                           clear H
                           obtain ⟨Ao173, co173, eo173⟩ := Kd.R_slice HO_39.out
                           subst eo173
                           have p461 : 0 ≤ (t456 : Int) := of_decide_eq_true (by first | (with_reducible assumption) | assumption)
                           have q461 : t456 < (x39_5.length : Int) := of_decide_eq_true (by first | (with_reducible assumption) | assumption)
                           obtain ⟨ad461, e461, hx461_0⟩ := Kd.at_bool (Kd.R_reads' HO_39.out).2.2 t456 p461 q461
                           (try rw [← Nbq171.out] at hx461_0)
                           cases e461
                           replace p461 := eq_true p461
                           replace q461 := eq_true q461
                           go_wp2
                           go_roundg kj152
                           case measure => have := HJ15.out; have := HJ85.out; have := HJ122.out; have := HJ135.out; have := HK5.out; have := HJ152.out; omega
                           case rel => exact ⟨(x39_5), (x40_5), (wrap64 (x41_5 + 1)), (by first | rfl | (simp; done) | (simp [*]; done)), (by first | rfl | (simp; done) | (simp [*]; done)), H', ⟨by have := HJ15.out; have := HJ85.out; have := HJ122.out; have := HJ135.out; have := HK5.out; have := HJ152.out; omega⟩, ⟨by (with_reducible repeat (first | apply Kd.R_alloc | apply Kd.R_drewN | apply Kd.R_drew)); exact HO_23.out⟩, ⟨by (with_reducible repeat (first | apply Kd.R_alloc | apply Kd.R_drewN | apply Kd.R_drew)); exact HO_39.out⟩, ⟨bk_⟩, ⟨bk_⟩, ⟨bw_⟩⟩
                          ·
                           replace c172 := Bool.eq_false_iff.mpr c172
                           subst c172
                           rw [if_neg (show ¬ (false = true) by decide)] at H
                           obtain ⟨y462, hy462⟩ : ∃ y_ : List Bool, y_ = (x39_5.set (t456 : Int).toNat true) := ⟨_, rfl⟩
                           replace H : (laws_FnRunnersMeet.l1 kj152 l1 t398 t403 t414 t424 t432 t433 t451 y462 (wrap64 (x40_5 + 1)) (wrap64 (x41_5 + 1)) t399 t400 t401 t402) = some r := by first | (rw [hy462]; with_reducible exact H) | (have H2_ := (Option.bind_some _ _).symm.trans H; rw [hy462]; with_reducible exact H2_) | (have H2_ := (Option.bind_some _ _).symm.trans H; with_reducible exact H2_) | with_reducible exact H | (rw [hy462]; exact H) | exact H
                           have Ny462 := Aside0.mk hy462
                           clear hy462
                           have H' := Aside0.mk H
                           clear H
                           obtain ⟨Ao175, co175, eo175⟩ := Kd.R_slice HO_39.out
                           subst eo175
                           have p461 : 0 ≤ (t456 : Int) := of_decide_eq_true (by first | (with_reducible assumption) | assumption)
                           have q461 : t456 < (x39_5.length : Int) := of_decide_eq_true (by first | (with_reducible assumption) | assumption)
                           obtain ⟨ad461, e461, hx461_0⟩ := Kd.at_bool (Kd.R_reads' HO_39.out).2.2 t456 p461 q461
                           (try rw [← Nbq171.out] at hx461_0)
                           cases e461
                           replace p461 := eq_true p461
                           replace q461 := eq_true q461
                           have p174 : 0 ≤ (t456 : Int) := of_decide_eq_true (by first | (with_reducible assumption) | assumption)
                           have q174 : (t456 : Int) < ((x39_5.length : Int) : Int) := of_decide_eq_true (by first | (with_reducible assumption) | assumption)
                           obtain ⟨go174, co174, eo174, gb174, gl174, cl174, HG174⟩ := Kd.R_form HO_39.out (by omega)
                           (first | cases eo174 | (injection eo174 with ea_ en_ ec_; (first | subst ea_ | (injection ea_ with ea_; subst ea_)); subst ec_; clear en_))
                           have GB174 := Aside0.mk gb174
                           have GG174 := Aside0.mk HG174
                           clear gb174 gl174 HG174
                           (first | simp only [add_plain] at hx461_0 | skip)
                           obtain ⟨hx174_0, hf174_0⟩ := Kd.R_celln false HO_39.out (t456 : Int) p174 q174
                           replace p174 := eq_true p174
                           replace q174 := eq_true q174
                           have HP176 := Kd.R_putg HO_39.out (t456 : Int) true
                           go_wp2_with (first | ((with_reducible refine gate_store (t := 4) (p := 416) rfl ?_); refine store_event (t := 4) (p := 416) (v := ?vo_w177) (w1 := (wc.setCell ⟨go174, (t456 : Int).toNat, none⟩ (.bool true))) ?hg ?ho ?hn ?hr ?_; (case ho => rfl); (case hg => rfl); (case hn => rfl); (case hr => first | (go_simp; done) | (go_simp; rfl)); intro w177 hw; have hg : wc.grownBy w177 (some go174) := (by rw [hw]; exact HP176.2); have hp_ : Kd.R Kd.bool 4 w177 w.heap.size (fun _ => True) (.slice (some ⟨go174, 0, none⟩) x39_5.length co175) y462 := (by rw [hw, Ny462.out]; exact HP176.1); clear HP176; have n0_ := Aside0.mk (Kd.R_over' (v := (.slice (some ⟨go174, 0, none⟩) x39_5.length co175)) (by (with_reducible repeat (first | apply Kd.R_alloc | apply Kd.R_drewN | apply Kd.R_drew)); exact HO_23.out) (Kd.R_typed HO_39.out) (by decide) hg); have n1_ := Aside0.mk (hp_); have n2_ := Aside0.mk (blk_grown (g := gb404) (o := .cells #[.int .i64 t399, .int .i64 t400] 45 (0, 0)) bk_ hg (Kd.R_ne HO_39.out BK404.out (by decide))); have n3_ := Aside0.mk (blk_grown (g := gb405) (o := .cells #[.int .i64 t401, .int .i64 t402] 45 (0, 0)) bk_ hg (Kd.R_ne HO_39.out BK405.out (by decide))); have n4_ := Aside0.mk ((by rw [hw]; exact below_set (HB.out) GB174.out : Below w.heap.size w w177)); clear HO_23; clear HO_39; clear BK404; clear BK405; clear HB; have HO_23 := n0_; have HO_39 := n1_; have BK404 := n2_; have BK405 := n3_; have HB := n4_; clear n0_ n1_ n2_ n3_ n4_; clear hg hw hp_))
                           go_roundg kj152
                           case measure => have := HJ15.out; have := HJ85.out; have := HJ122.out; have := HJ135.out; have := HK5.out; have := HJ152.out; omega
                           case rel => exact ⟨(y462), (wrap64 (x40_5 + 1)), (wrap64 (x41_5 + 1)), (by first | rfl | (simp; done) | (simp [*]; done)), (by first | rfl | (simp; done) | (simp [*]; done)), H', ⟨by have := HJ15.out; have := HJ85.out; have := HJ122.out; have := HJ135.out; have := HK5.out; have := HJ152.out; omega⟩, ⟨by (with_reducible repeat (first | apply Kd.R_alloc | apply Kd.R_drewN | apply Kd.R_drew)); exact HO_23.out⟩, ⟨by (with_reducible repeat (first | apply Kd.R_alloc | apply Kd.R_drewN | apply Kd.R_drew)); exact HO_39.out⟩, ⟨bk_⟩, ⟨bk_⟩, ⟨bw_⟩⟩
                         ·
                          rw [if_neg c170] at H
                          exact absurd H (by simp)
                        ·
                         rw [if_neg c169] at H
                         exact absurd H (by simp)
                       ·
                        rw [if_neg c168] at H
                        have c168b0 : (t456 == t458) = false := beq_eq_false_iff_ne.mpr c168
                        have c168b1 : (t456 != t458) = true := bne_iff_ne.mpr c168
                        have H' := Aside0.mk H
                        clear H
                        go_wp2
                        go_roundg kj152
                        case measure => have := HJ15.out; have := HJ85.out; have := HJ122.out; have := HJ135.out; have := HK5.out; have := HJ152.out; omega
                        case rel => exact ⟨(x39_5), (x40_5), (wrap64 (x41_5 + 1)), (by first | rfl | (simp; done) | (simp [*]; done)), (by first | rfl | (simp; done) | (simp [*]; done)), H', ⟨by have := HJ15.out; have := HJ85.out; have := HJ122.out; have := HJ135.out; have := HK5.out; have := HJ152.out; omega⟩, ⟨by (with_reducible repeat (first | apply Kd.R_alloc | apply Kd.R_drewN | apply Kd.R_drew)); exact HO_23.out⟩, ⟨by (with_reducible repeat (first | apply Kd.R_alloc | apply Kd.R_drewN | apply Kd.R_drew)); exact HO_39.out⟩, ⟨bk_⟩, ⟨bk_⟩, ⟨bw_⟩⟩
                   ·
                    rw [if_neg c150] at H
                    have c150b0 : decide (x41_5 < t451) = false := decide_eq_false c150
                    clear c150
                    by_cases c178 : x40_5 = (t424.length : Int)
                    ·
                     rw [if_pos c178] at H
                     have c178b0 : (x40_5 == (t424.length : Int)) = true := beq_iff_eq.mpr c178
                     have c178b1 : (x40_5 != (t424.length : Int)) = false := bne_eq_false_iff_eq.mpr c178
                     clear c178
                     have H' := Aside0.mk H
                     clear H
                     obtain ⟨Ao179, co179, eo179⟩ := Kd.R_slice HO_23.out
                     subst eo179
                     go_wp2
                     go_meet
                     case rel => exact ⟨_, H', ⟨by have := HJ15.out; have := HJ85.out; have := HJ122.out; have := HJ135.out; have := HK5.out; first | omega | exact Nat.le_refl _⟩, ⟨bk_⟩, ⟨bk_⟩, ⟨bw_⟩⟩
                    ·
                     rw [if_neg c178] at H
                     have c178b0 : (x40_5 == (t424.length : Int)) = false := beq_eq_false_iff_ne.mpr c178
                     have c178b1 : (x40_5 != (t424.length : Int)) = true := bne_iff_ne.mpr c178
                     exact absurd ((Option.some.inj H).trans HRT.out) (by decide)
                ·
                 rw [if_neg c147] at H
                 exact absurd H (by simp)
               ·
                rw [if_neg c146] at H
                exact absurd H (by simp)
           ·
            replace c134 := Bool.eq_false_iff.mpr c134
            subst c134
            rw [if_neg (show ¬ (false = true) by decide)] at H
            have H' := Aside0.mk H
            clear H
            go_wp2
            go_meet
            case rel => exact ⟨_, H', ⟨by have := HJ15.out; have := HJ85.out; have := HJ122.out; first | omega | exact Nat.le_refl _⟩, ⟨bk_⟩, ⟨bk_⟩, ⟨bw_⟩⟩
end Go.Proofs.Ytgobnhoblofglaa.PFnRunnersMeet
