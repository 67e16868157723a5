-- Laid by a program of this session's (wip/gen/printp.sh): the functions that the law reaches, each with its walk.
import Derived.Test.YtgobnhoblofglaaPFnRunnersMeetOfAllx0
import Derived.Test.YtgobnhoblofglaaPFnRunnersMeetOfAllx1
import Derived.Test.YtgobnhoblofglaaPFnRunnersMeetOfAllx2
import Derived.Test.YtgobnhoblofglaaPFnRunnersMeetOfAllx3
import Derived.Test.YtgobnhoblofglaaPFnRunnersMeetOfAllx4
import Derived.Test.YtgobnhoblofglaaPFnRunnersMeetOfAllx5
import Derived.Test.YtgobnhoblofglaaPFnRunnersMeetOfAllx6
import Derived.Test.YtgobnhoblofglaaPFnRunnersMeetOfAllx7
import Derived.Test.YtgobnhoblofglaaPFnRunnersMeetOfAllx8
import Derived.Test.YtgobnhoblofglaaPFnRunnersMeetOfAllx9
import Derived.Test.YtgobnhoblofglaaPFnRunnersMeetOfAllx10
namespace Go.Proofs.Ytgobnhoblofglaa.PFnRunnersMeetOfAll
open Go.RowKit Go.Proofs.YtgobnhoblofglaaW.PrintWords Go.Proofs.YtgobnhoblofglaaW.PrintLast Go.Proofs.YtgobnhoblofglaaW.PrintMore
attribute [local go_sem] max2_int min2_int max_two min_two max_three min_three max_four min_four   -- for this text's walks alone
set_option linter.unusedVariables false
set_option linter.unusedSimpArgs false
set_option maxHeartbeats 80000000 in
set_option maxRecDepth 100000 in
theorem laws_FnRunnersMeetOfAll.case4 (k : Nat) (a0 : Int) (a1_0 : Int) (a1_1 : Int) (a2_0 : Int) (a2_1 : Int) (a3 : Int) (a4 : Int) (A5 : Option Addr) (c5 : Nat) (l5 : List (S45)) (r : Bool) (w : World) : (laws_FnRunnersMeetOfAll.part k a0 a1_0 a1_1 a2_0 a2_1 a3 a4 A5 c5 l5 r w).2.2.2.1 := by
           intro HRT hu45 HR5 HC5 t268 t271 A10 t272 t275 A11 t276 t277 A12 t278 t279 A13 t280 t281 t282 A14 t283 t284 t285 A15 t286 t289 A16 t290 t293 A17 t294 t295 A18 t296 t297 A19 z1_ gb266 w21 GW266 GE266 gb267 w22 GW267 GE267 NB266_267 NB267_266 hnb23 hnc23 w26 v269 w29 v273 w32 w35 w38 w41 w44 v287 w47 v291 w50 w53 HO270 HO274 HO288 HO292 z2_ z3_ z4_ z5_ u160 u161 u162 u163 u164 u165 u166 u167 u168 u169 u170 u171 u172 u173 u174 u175 u176 u177 u178 u179 u180 u181 u182 u183 u184 u185 u186 u187 u188 u189 u190 u191 u192 u193 u194 u195 u196 u197 u198 u199 u200 u201 u202 u203 u204 u205 u206 u207 u208 u209 u210 u211 u212 u213 u214 u215 u216 u217 u218 u219 u220 u221 u222 u223 u224 u225 u226 u227 u228 u229 u230 u231 u232 HO_13 z6_ z7_ z8_ z9_ kj19 HJ19 z10_ u12 u36 u37 u38 u39 u40 u235 u236 u237 u238 u239 u240 u241 u242 u243 u244 u245 u246 u247 u248 u249 u250 u251 u252 u253 u254 u255 u256 u257 u258 u259 u260 u261 u262 u263 u264 u265 u266 u267 u268 u269 u270 u271 u272 u273 u274 u275 u276 u277 u278 u279 u280 u281 u282 u283 u284 u285 u286 u287 u288 u289 u290 u291 u292 u293 u294 u295 u296 u297 u298 u299 u300 u301 u302 u303 u304 u305 u306 u307 u308 u309 u310 u311 u312 u313 z11_ z12_ z13_ z14_ kj88 HJ88 wc u314 u315 u316 u317 u318 u319 u320 u321 u322 u323 u324 u325 u326 u327 u328 u329 u330 u331 u332 u333 u334 HO_27 BK266 BK267 HB kj125 HJ125 HC136 z15_ z16_ z17_ z18_ z19_ z20_
           have H := HC136.out
           clear HC136
           by_cases c137 : t289 = true
           ·
            subst c137
            rw [if_pos rfl] at H
            obtain ⟨y310, hy310⟩ : ∃ y_ : List (S45), y_ = (([(⟨a1_0, a1_1⟩ : S45), (⟨a2_0, a2_1⟩ : S45)] : List (S45))) := ⟨_, rfl⟩
            replace H : ((impl_RunPeriod.f kj125 a0 y310).bind fun bt313 => (if bt313.2 = true then (laws_FnRunnersMeetOfAll.j5 kj125 a0 a3 a4 l5 t276 t286 t294 t295 bt313.1 (decide (bt313.1 > a0)) a1_0 a1_1 a2_0 a2_1) else (laws_FnRunnersMeetOfAll.j5 kj125 a0 a3 a4 l5 t276 t286 t294 t295 bt313.1 true a1_0 a1_1 a2_0 a2_1))) = some r := by first | (rw [hy310]; with_reducible exact H) | (have H2_ := (Option.bind_some _ _).symm.trans H; rw [hy310]; with_reducible exact H2_) | (have H2_ := (Option.bind_some _ _).symm.trans H; with_reducible exact H2_) | with_reducible exact H | (rw [hy310]; exact H) | exact H
            have Ny310 := Aside0.mk hy310
            clear hy310
            replace H := Option.bind_eq_some_iff.mp H
            obtain ⟨⟨t313, t314⟩, A1380, H⟩ := H
            (try dsimp only at H)
            have A138 := Aside0.mk A1380
            clear A1380
            have HC139 := Aside0.mk H
            clear H
            have hnb140 := NB266_267.out
            have hnc140 := NB267_266.out
            have hcz141_0 : wc.cell? ⟨gb266, 0, none⟩ = some (.int .i64 a1_0) := (blk_cell BK266.out 0).trans rfl
            have hcz141_1 : wc.cell? ⟨gb266, 1, none⟩ = some (.int .i64 a1_1) := (blk_cell BK266.out 1).trans rfl
            have hfz141_0 := blk_frozen BK266.out 0
            have hfz141_1 := blk_frozen BK266.out 1
            have hcz142_0 : wc.cell? ⟨gb267, 0, none⟩ = some (.int .i64 a2_0) := (blk_cell BK267.out 0).trans rfl
            have hcz142_1 : wc.cell? ⟨gb267, 1, none⟩ = some (.int .i64 a2_1) := (blk_cell BK267.out 1).trans rfl
            have hfz142_0 := blk_frozen BK267.out 0
            have hfz142_1 := blk_frozen BK267.out 1
            go_upto_region 30 with (first | ((with_reducible refine gate_dst (N := 341) rfl ?_); (try (refine gate_guard (by rfl) ?_; dsimp only)); refine Kd.R_lit k45 _ 45 ?hg (N := 341) ?hd (xs := ([(⟨a1_0, a1_1⟩ : S45), (⟨a2_0, a2_1⟩ : S45)] : List (S45))) (inner := [.int .i64 a1_0, .int .i64 a1_1, .int .i64 a2_0, .int .i64 a2_1]) (ok := fun _ => True) (okp := fun _ => True) ?hr ?hp (fun _ hk => hk) trivial (Below.refl _ _) (Nat.le_refl _) (by simp) ?_; (case hd => rfl); (case hg => rfl); (case hr => first | (go_simp; done) | (go_simp; rfl)); (case hp => exact (Reps.c2 (show Kd.M k45 _ _ _ (⟨a1_0, a1_1⟩ : S45) [.int .i64 a1_0, .int .i64 a1_1] from (k45_mkM _ _ _ (⟨a1_0, a1_1⟩ : S45) )) (Reps.c2 (show Kd.M k45 _ _ _ (⟨a2_0, a2_1⟩ : S45) [.int .i64 a2_0, .int .i64 a2_1] from (k45_mkM _ _ _ (⟨a2_0, a2_1⟩ : S45) )) (Reps.none _ _)))); intro v311 w143 ho144 hb hg_ hnew_; clear hg_ hnew_; (first | rw [← Ny310.out] at ho144 | (simp only [Int.reduceToNat] at ho144; rw [← Ny310.out] at ho144)); have n0_ := Aside0.mk (Kd.R_below (by (with_reducible repeat (first | apply Kd.R_alloc | apply Kd.R_drewN | apply Kd.R_drew)); exact HO_27.out) hb); have n1_ := Aside0.mk (Kd.R_lower (Kd.R_newB (Kd.R_newB ho144 (g := gb266) (o := .cells #[.int .i64 a1_0, .int .i64 a1_1] 45 (0, 0)) bk_) (g := gb267) (o := .cells #[.int .i64 a2_0, .int .i64 a2_1] 45 (0, 0)) bk_) (below_size bw_)); have n2_ := Aside0.mk (blk_below (g := gb266) (o := .cells #[.int .i64 a1_0, .int .i64 a1_1] 45 (0, 0)) bk_ hb); have n3_ := Aside0.mk (blk_below (g := gb267) (o := .cells #[.int .i64 a2_0, .int .i64 a2_1] 45 (0, 0)) bk_ hb); have n4_ := Aside0.mk (below_step bw_ hb); clear HO_27; clear BK266; clear BK267; clear HB; have HO_27 := n0_; have HO312 := n1_; have BK266 := n2_; have BK267 := n3_; have HB := n4_; clear n0_ n1_ n2_ n3_ n4_; clear hb ho144; obtain ⟨Ao145, co145, eo145⟩ := Kd.R_slice HO312.out; subst eo145) | ((with_reducible refine gate_callee (f := 36) rfl ?_); refine goesL_ (some 342) rfl rfl Try.func36 (by kernel_rfl) rfl #[.int .i64 a0, .slice Ao145 y310.length co145] rfl (by (try simp only [List.map_toArray, List.map_cons, List.map_nil]); first | done | rfl | (simp only [List.length_drop, List.length_take]; rfl)) ?_; (with_reducible refine (impl_RunPeriod.calls kj125 a0 _ _ y310 t313 t314 _ ?side1 ?side2 A138.out).mono ?_); (case side1 => repeat (first | exact (Kd.R_reads' HO312.out).2.2 | (with_reducible refine Kd.C_alloc ?_ _) | (with_reducible refine Kd.C_drewN ?_ _) | (with_reducible refine Kd.C_drew ?_))); (case side2 => exact (Kd.R_reads' HO312.out).2.1); rintro e w146 ⟨rfl, hb⟩; refine ⟨_, rfl, ?_⟩; have n0_ := Aside0.mk (Kd.R_below (by (with_reducible repeat (first | apply Kd.R_alloc | apply Kd.R_drewN | apply Kd.R_drew)); exact HO_27.out) hb); have n1_ := Aside0.mk (Kd.R_below (by (with_reducible repeat (first | apply Kd.R_alloc | apply Kd.R_drewN | apply Kd.R_drew)); exact HO312.out) hb); have n2_ := Aside0.mk (blk_below (g := gb266) (o := .cells #[.int .i64 a1_0, .int .i64 a1_1] 45 (0, 0)) bk_ hb); have n3_ := Aside0.mk (blk_below (g := gb267) (o := .cells #[.int .i64 a2_0, .int .i64 a2_1] 45 (0, 0)) bk_ hb); have n4_ := Aside0.mk (below_step bw_ hb); clear HO_27; clear HO312; clear BK266; clear BK267; clear HB; have HO_27 := n0_; have HO312 := n1_; have BK266 := n2_; have BK267 := n3_; have HB := n4_; clear n0_ n1_ n2_ n3_ n4_; (try clear hb); (try clear hb2); (try clear hk); (try clear hi)))
            (try simp only [Act.put, List.setIfInBounds_toArray, List.set_cons_zero, List.set_cons_succ])
            go_cut [351] from 345 to 351 (fun v351 wc => ∃ (kq : Nat) (x351_138 : Bool), v351 = .bool x351_138 ∧ Aside0 (laws_FnRunnersMeetOfAll.j5 kq a0 a3 a4 l5 t276 t286 t294 t295 t313 x351_138 a1_0 a1_1 a2_0 a2_1 = some r) ∧ Aside0 (kq ≤ kj125) ∧ Aside0 (Kd.R (Kd.int .i64) 3 wc w.heap.size (fun _ => True) v287 t286) ∧ Aside0 (wc.heap[gb266]? = some (.cells #[.int .i64 a1_0, .int .i64 a1_1] 45 (0, 0))) ∧ Aside0 (wc.heap[gb267]? = some (.cells #[.int .i64 a2_0, .int .i64 a2_1] 45 (0, 0))) ∧ Aside0 (Below w.heap.size w wc))
            case first => as_aux_lemma =>
             have H := HC139.out
             clear HC139
             by_cases c147 : t314 = true
             ·
              subst c147
              rw [if_pos rfl] at H
              have H' := Aside0.mk H
              clear H
              go_wp2
              go_meet
              case rel => exact ⟨_, (decide (t313 > a0)), (by first | rfl | (simp; done) | (simp [*]; done)), H', ⟨by have := HJ19.out; have := HJ88.out; have := HJ125.out; first | omega | exact Nat.le_refl _⟩, ⟨by (with_reducible repeat (first | apply Kd.R_alloc | apply Kd.R_drewN | apply Kd.R_drew)); exact HO_27.out⟩, ⟨by (with_reducible repeat (first | refine blk_drewN ?_ _ | refine blk_drew ?_ | refine blk_alloc ?_ _)); exact BK266.out⟩, ⟨by (with_reducible repeat (first | refine blk_drewN ?_ _ | refine blk_drew ?_ | refine blk_alloc ?_ _)); exact BK267.out⟩, ⟨bw_⟩⟩
             ·
              replace c147 := Bool.eq_false_iff.mpr c147
              subst c147
              rw [if_neg (show ¬ (false = true) by decide)] at H
              exact absurd (H.trans (congrArg some HRT.out)) (by cases kj125 <;> simp [laws_FnRunnersMeetOfAll.j5])
            case rest => as_aux_lemma =>
             clear HC139
             (try clear c2); (try clear c5); (try clear c7); (try clear c7b0); (try clear c7b1); (try clear c88); (try clear c135); (try clear c137); (try clear hcz141_0); (try clear hcz141_1); (try clear hcz142_0); (try clear hcz142_1); (try clear hcz24_0); (try clear hcz24_1); (try clear hcz25_0); (try clear hcz25_1); (try clear hcz27_0); (try clear hcz27_1); (try clear hcz28_0); (try clear hcz28_1); (try clear hcz30_0); (try clear hcz30_1); (try clear hcz31_0); (try clear hcz31_1); (try clear hcz33_0); (try clear hcz33_1); (try clear hcz34_0); (try clear hcz34_1); (try clear hcz36_0); (try clear hcz36_1); (try clear hcz37_0); (try clear hcz37_1); (try clear hcz39_0); (try clear hcz39_1); (try clear hcz40_0); (try clear hcz40_1); (try clear hcz42_0); (try clear hcz42_1); (try clear hcz43_0); (try clear hcz43_1); (try clear hcz45_0); (try clear hcz45_1); (try clear hcz46_0); (try clear hcz46_1); (try clear hcz48_0); (try clear hcz48_1); (try clear hcz49_0); (try clear hcz49_1); (try clear hcz51_0); (try clear hcz51_1); (try clear hcz52_0); (try clear hcz52_1); (try clear hfz141_0); (try clear hfz141_1); (try clear hfz142_0); (try clear hfz142_1); (try clear hfz24_0); (try clear hfz24_1); (try clear hfz25_0); (try clear hfz25_1); (try clear hfz27_0); (try clear hfz27_1); (try clear hfz28_0); (try clear hfz28_1); (try clear hfz30_0); (try clear hfz30_1); (try clear hfz31_0); (try clear hfz31_1); (try clear hfz33_0); (try clear hfz33_1); (try clear hfz34_0); (try clear hfz34_1); (try clear hfz36_0); (try clear hfz36_1); (try clear hfz37_0); (try clear hfz37_1); (try clear hfz39_0); (try clear hfz39_1); (try clear hfz40_0); (try clear hfz40_1); (try clear hfz42_0); (try clear hfz42_1); (try clear hfz43_0); (try clear hfz43_1); (try clear hfz45_0); (try clear hfz45_1); (try clear hfz46_0); (try clear hfz46_1); (try clear hfz48_0); (try clear hfz48_1); (try clear hfz49_0); (try clear hfz49_1); (try clear hfz51_0); (try clear hfz51_1); (try clear hfz52_0); (try clear hfz52_1)
             obtain ⟨kq, x351_138, rfl, HA, HJ138, HO_27, BK266, BK267, HB⟩ := hcut
             cases kq with
             | zero => exact absurd HA.out (by simp [laws_FnRunnersMeetOfAll.j5])
             | succ kj138 =>
              have H := HA.out
              clear HA
              simp only [laws_FnRunnersMeetOfAll.j5] at H
              by_cases c148 : x351_138 = true
              ·
               subst c148
               rw [if_pos rfl] at H
               exact absurd ((Option.some.inj H).trans HRT.out) (by decide)
              ·
               replace c148 := Bool.eq_false_iff.mpr c148
               subst c148
               rw [if_neg (show ¬ (false = true) by decide)] at H
               by_cases c149 : 0 ≤ a0
               ·
                rw [if_pos c149] at H
                have c149b0 := eq_true c149
                have c149b1 : decide (0 ≤ a0) = true := decide_eq_true c149
                clear c149
                by_cases c150 : (a0 : Int).toNat ≤ 281474976710656
                ·
                 rw [if_pos c150] at H
                 have c150b0 := eq_true c150
                 have c150b1 : decide ((a0 : Int).toNat ≤ 281474976710656) = true := decide_eq_true c150
                 clear c150
                 obtain ⟨y315, hy315⟩ : ∃ y_ : List Bool, y_ = (List.replicate (a0 : Int).toNat false) := ⟨_, rfl⟩
                 replace H : (laws_FnRunnersMeetOfAll.l1 kj138 a0 a3 a4 l5 t276 t286 t294 t295 t313 y315 0 0 a1_0 a1_1 a2_0 a2_1) = some r := by first | (rw [hy315]; with_reducible exact H) | (have H2_ := (Option.bind_some _ _).symm.trans H; rw [hy315]; with_reducible exact H2_) | (have H2_ := (Option.bind_some _ _).symm.trans H; with_reducible exact H2_) | with_reducible exact H | (rw [hy315]; exact H) | exact H
                 have Ny315 := Aside0.mk hy315
                 clear hy315
                 have H' := Aside0.mk H
                 clear H
                 go_wp2_with (first | ((with_reducible refine gate_dst (N := 353) rfl ?_); (try (refine gate_guard (by rfl) ?_; dsimp only)); refine Kd.R_make Kd.bool _ 4 rfl (N := 353) rfl 56 _ _ rfl a0 rfl rfl Try.underlying56 (.bool false) 1 info4 rfl (by decide) (by omega) false (ok := fun _ => True) (okp := fun _ => True) rfl (fun _ hk => hk) trivial (of_decide_eq_true (by first | (with_reducible assumption) | assumption)) (Nat.le_trans (Nat.mul_le_mul_right _ (of_decide_eq_true (by first | (with_reducible assumption) | assumption) : a0.toNat ≤ 281474976710656)) (by omega)) (Below.refl _ _) (Nat.le_refl _) ?_; intro v316 w151 ho152 hb hg_ hnew_; clear hg_ hnew_; (first | rw [← Ny315.out] at ho152 | (simp only [Int.reduceToNat] at ho152; rw [← Ny315.out] at ho152)); have n0_ := Aside0.mk (Kd.R_below (by (with_reducible repeat (first | apply Kd.R_alloc | apply Kd.R_drewN | apply Kd.R_drew)); exact HO_27.out) hb); have n1_ := Aside0.mk (Kd.R_lower ho152 (below_size bw_)); have n2_ := Aside0.mk (blk_below (g := gb266) (o := .cells #[.int .i64 a1_0, .int .i64 a1_1] 45 (0, 0)) bk_ hb); have n3_ := Aside0.mk (blk_below (g := gb267) (o := .cells #[.int .i64 a2_0, .int .i64 a2_1] 45 (0, 0)) bk_ hb); have n4_ := Aside0.mk (below_step bw_ hb); clear HO_27; clear BK266; clear BK267; clear HB; have HO_27 := n0_; have HO317 := n1_; have BK266 := n2_; have BK267 := n3_; have HB := n4_; clear n0_ n1_ n2_ n3_ n4_; clear hb ho152))
                 go_loopg [44, 45] kj138 (fun kq v44 v45 w' => ∃ (x43_5 : List Bool) (x44_5 : Int) (x45_5 : Int), v44 = .int .i64 x44_5 ∧ v45 = .int .i64 x45_5 ∧ Aside0 (laws_FnRunnersMeetOfAll.l1 kq a0 a3 a4 l5 t276 t286 t294 t295 t313 x43_5 x44_5 x45_5 a1_0 a1_1 a2_0 a2_1 = some r) ∧ Aside0 (kq ≤ kj138) ∧ Aside0 (Kd.R (Kd.int .i64) 3 w' w.heap.size (fun _ => True) v287 t286) ∧ Aside0 (Kd.R Kd.bool 4 w' w.heap.size (fun _ => True) v316 x43_5) ∧ Aside0 (w'.heap[gb266]? = some (.cells #[.int .i64 a1_0, .int .i64 a1_1] 45 (0, 0))) ∧ Aside0 (w'.heap[gb267]? = some (.cells #[.int .i64 a2_0, .int .i64 a2_1] 45 (0, 0))) ∧ Aside0 (Below w.heap.size w w'))
                 case atStart => exact ⟨(y315), (0), (0), (by first | rfl | (simp; done) | (simp [*]; done)), (by first | rfl | (simp; done) | (simp [*]; done)), H', ⟨Nat.le_refl _⟩, ⟨by (with_reducible repeat (first | apply Kd.R_alloc | apply Kd.R_drewN | apply Kd.R_drew)); exact HO_27.out⟩, ⟨by (with_reducible repeat (first | apply Kd.R_alloc | apply Kd.R_drewN | apply Kd.R_drew)); exact HO317.out⟩, ⟨by (with_reducible repeat (first | refine blk_drewN ?_ _ | refine blk_drew ?_ | refine blk_alloc ?_ _)); exact BK266.out⟩, ⟨by (with_reducible repeat (first | refine blk_drewN ?_ _ | refine blk_drew ?_ | refine blk_alloc ?_ _)); exact BK267.out⟩, ⟨bw_⟩⟩
                 case round => as_aux_lemma =>
                  clear H'
                  (try clear c2); (try clear c5); (try clear c7); (try clear c7b0); (try clear c7b1); (try clear c88); (try clear c135); (try clear c137); (try clear c148); (try clear c149); (try clear c149b0); (try clear c149b1); (try clear c150); (try clear c150b0); (try clear c150b1); (try clear hcz141_0); (try clear hcz141_1); (try clear hcz142_0); (try clear hcz142_1); (try clear hcz24_0); (try clear hcz24_1); (try clear hcz25_0); (try clear hcz25_1); (try clear hcz27_0); (try clear hcz27_1); (try clear hcz28_0); (try clear hcz28_1); (try clear hcz30_0); (try clear hcz30_1); (try clear hcz31_0); (try clear hcz31_1); (try clear hcz33_0); (try clear hcz33_1); (try clear hcz34_0); (try clear hcz34_1); (try clear hcz36_0); (try clear hcz36_1); (try clear hcz37_0); (try clear hcz37_1); (try clear hcz39_0); (try clear hcz39_1); (try clear hcz40_0); (try clear hcz40_1); (try clear hcz42_0); (try clear hcz42_1); (try clear hcz43_0); (try clear hcz43_1); (try clear hcz45_0); (try clear hcz45_1); (try clear hcz46_0); (try clear hcz46_1); (try clear hcz48_0); (try clear hcz48_1); (try clear hcz49_0); (try clear hcz49_1); (try clear hcz51_0); (try clear hcz51_1); (try clear hcz52_0); (try clear hcz52_1); (try clear hfz141_0); (try clear hfz141_1); (try clear hfz142_0); (try clear hfz142_1); (try clear hfz24_0); (try clear hfz24_1); (try clear hfz25_0); (try clear hfz25_1); (try clear hfz27_0); (try clear hfz27_1); (try clear hfz28_0); (try clear hfz28_1); (try clear hfz30_0); (try clear hfz30_1); (try clear hfz31_0); (try clear hfz31_1); (try clear hfz33_0); (try clear hfz33_1); (try clear hfz34_0); (try clear hfz34_1); (try clear hfz36_0); (try clear hfz36_1); (try clear hfz37_0); (try clear hfz37_1); (try clear hfz39_0); (try clear hfz39_1); (try clear hfz40_0); (try clear hfz40_1); (try clear hfz42_0); (try clear hfz42_1); (try clear hfz43_0); (try clear hfz43_1); (try clear hfz45_0); (try clear hfz45_1); (try clear hfz46_0); (try clear hfz46_1); (try clear hfz48_0); (try clear hfz48_1); (try clear hfz49_0); (try clear hfz49_1); (try clear hfz51_0); (try clear hfz51_1); (try clear hfz52_0); (try clear hfz52_1)
                  obtain ⟨x43_5, x44_5, x45_5, rfl, rfl, HA, HK5, HO_27, HO_43, BK266, BK267, HB⟩ := hrel
                  cases gk with
                  | zero => exact absurd HA.out (by simp [laws_FnRunnersMeetOfAll.l1])
                  | succ k5 =>
                   have H := HA.out
                   clear HA
                   simp only [laws_FnRunnersMeetOfAll.l1] at H
                   by_cases c153 : x45_5 < t313
                   ·
                    rw [if_pos c153] at H
                    have c153b0 : decide (x45_5 < t313) = true := decide_eq_true c153
                    clear c153
                    replace H := Option.bind_eq_some_iff.mp H
                    obtain ⟨⟨t318, t319⟩, A1540, H⟩ := H
                    (try dsimp only at H)
                    have A154 := Aside0.mk A1540
                    clear A1540
                    replace H := Option.bind_eq_some_iff.mp H
                    obtain ⟨⟨t320, t321⟩, A1550, H⟩ := H
                    (try dsimp only at H)
                    have A155 := Aside0.mk A1550
                    clear A1550
                    have HC156 := Aside0.mk H
                    clear H
                    have hnb157 := NB266_267.out
                    have hnc157 := NB267_266.out
                    have hcz158_0 : wr.cell? ⟨gb266, 0, none⟩ = some (.int .i64 a1_0) := (blk_cell BK266.out 0).trans rfl
                    have hcz158_1 : wr.cell? ⟨gb266, 1, none⟩ = some (.int .i64 a1_1) := (blk_cell BK266.out 1).trans rfl
                    have hfz158_0 := blk_frozen BK266.out 0
                    have hfz158_1 := blk_frozen BK266.out 1
                    go_upto_region 39 with (first | ((with_reducible refine gate_callee (f := 34) rfl ?_); refine goesL_ (some 363) rfl rfl Try.func34 (by kernel_rfl) rfl #[.int .i64 a0, .agg #[.int .i64 a1_0, .int .i64 a1_1], .int .i64 x45_5] rfl (by (try simp only [List.map_toArray, List.map_cons, List.map_nil]); first | done | rfl | (simp only [List.length_drop, List.length_take]; rfl)) ?_; (with_reducible refine (impl_PlaceOnTrack.calls a0 a1_0 a1_1 x45_5 t318 t319 _ A154.out).mono ?_); rintro e w159 ⟨rfl, hb⟩; refine ⟨_, rfl, ?_⟩; have n0_ := Aside0.mk (Kd.R_below (by (with_reducible repeat (first | apply Kd.R_alloc | apply Kd.R_drewN | apply Kd.R_drew)); exact HO_27.out) hb); have n1_ := Aside0.mk (Kd.R_below (by (with_reducible repeat (first | apply Kd.R_alloc | apply Kd.R_drewN | apply Kd.R_drew)); exact HO_43.out) hb); have n2_ := Aside0.mk (blk_below (g := gb266) (o := .cells #[.int .i64 a1_0, .int .i64 a1_1] 45 (0, 0)) bk_ hb); have n3_ := Aside0.mk (blk_below (g := gb267) (o := .cells #[.int .i64 a2_0, .int .i64 a2_1] 45 (0, 0)) bk_ hb); have n4_ := Aside0.mk (below_step bw_ hb); clear HO_27; clear HO_43; clear BK266; clear BK267; clear HB; have HO_27 := n0_; have HO_43 := n1_; have BK266 := n2_; have BK267 := n3_; have HB := n4_; clear n0_ n1_ n2_ n3_ n4_; (try clear hb); (try clear hb2); (try clear hk); (try clear hi); have hcz160_0 : w159.cell? ⟨gb267, 0, none⟩ = some (.int .i64 a2_0) := (blk_cell BK267.out 0).trans rfl; have hcz160_1 : w159.cell? ⟨gb267, 1, none⟩ = some (.int .i64 a2_1) := (blk_cell BK267.out 1).trans rfl; have hfz160_0 := blk_frozen BK267.out 0; have hfz160_1 := blk_frozen BK267.out 1) | ((with_reducible refine gate_callee (f := 34) rfl ?_); refine goesL_ (some 370) rfl rfl Try.func34 (by kernel_rfl) rfl #[.int .i64 a0, .agg #[.int .i64 a2_0, .int .i64 a2_1], .int .i64 x45_5] rfl (by (try simp only [List.map_toArray, List.map_cons, List.map_nil]); first | done | rfl | (simp only [List.length_drop, List.length_take]; rfl)) ?_; (with_reducible refine (impl_PlaceOnTrack.calls a0 a2_0 a2_1 x45_5 t320 t321 _ A155.out).mono ?_); rintro e w161 ⟨rfl, hb⟩; refine ⟨_, rfl, ?_⟩; have n0_ := Aside0.mk (Kd.R_below (by (with_reducible repeat (first | apply Kd.R_alloc | apply Kd.R_drewN | apply Kd.R_drew)); exact HO_27.out) hb); have n1_ := Aside0.mk (Kd.R_below (by (with_reducible repeat (first | apply Kd.R_alloc | apply Kd.R_drewN | apply Kd.R_drew)); exact HO_43.out) hb); have n2_ := Aside0.mk (blk_below (g := gb266) (o := .cells #[.int .i64 a1_0, .int .i64 a1_1] 45 (0, 0)) bk_ hb); have n3_ := Aside0.mk (blk_below (g := gb267) (o := .cells #[.int .i64 a2_0, .int .i64 a2_1] 45 (0, 0)) bk_ hb); have n4_ := Aside0.mk (below_step bw_ hb); clear HO_27; clear HO_43; clear BK266; clear BK267; clear HB; have HO_27 := n0_; have HO_43 := n1_; have BK266 := n2_; have BK267 := n3_; have HB := n4_; clear n0_ n1_ n2_ n3_ n4_; (try clear hb); (try clear hb2); (try clear hk); (try clear hi)))
                    (try simp only [Act.put, List.setIfInBounds_toArray, List.set_cons_zero, List.set_cons_succ])
                    go_cut [398] from 373 to 398 (fun v398 wc => ∃ (kq : Nat) (x398_155 : Bool), v398 = .bool x398_155 ∧ Aside0 (laws_FnRunnersMeetOfAll.j7 kq a0 a3 a4 l5 t276 t286 t294 t295 t313 x43_5 x44_5 x45_5 t318 t320 x398_155 a1_0 a1_1 a2_0 a2_1 = some r) ∧ Aside0 (kq ≤ k5) ∧ Aside0 (Kd.R (Kd.int .i64) 3 wc w.heap.size (fun _ => True) v287 t286) ∧ Aside0 (Kd.R Kd.bool 4 wc w.heap.size (fun _ => True) v316 x43_5) ∧ Aside0 (wc.heap[gb266]? = some (.cells #[.int .i64 a1_0, .int .i64 a1_1] 45 (0, 0))) ∧ Aside0 (wc.heap[gb267]? = some (.cells #[.int .i64 a2_0, .int .i64 a2_1] 45 (0, 0))) ∧ Aside0 (Below w.heap.size w wc))
                    case first => as_aux_lemma =>
                     have H := HC156.out
                     clear HC156
                     by_cases c162 : t319 = true
                     ·
                      subst c162
                      rw [if_pos rfl] at H
                      by_cases c163 : t321 = true
                      ·
                       subst c163
                       rw [if_pos rfl] at H
                       by_cases c164 : t318 = t320
                       ·
                        rw [if_pos c164] at H
                        have c164b0 : (t318 == t320) = true := beq_iff_eq.mpr c164
                        have c164b1 : (t318 != t320) = false := bne_eq_false_iff_eq.mpr c164
                        clear c164
                        (first | rw [c164b0] | (simp only [i64_w, i32_w]; rw [c164b0]) | skip)
                        replace H := Option.bind_eq_some_iff.mp H
                        obtain ⟨t322, A1650, H⟩ := H
                        (try dsimp only at H)
                        have A165 := Aside0.mk A1650
                        clear A1650
                        by_cases c166 : t322 = true
                        ·
                         subst c166
                         rw [if_pos rfl] at H
                         by_cases c167 : t318 < 0
                         ·
                          rw [if_pos c167] at H
                          have c167b0 : decide (t318 < 0) = true := decide_eq_true c167
                          clear c167
                          exact absurd (H.trans (congrArg some HRT.out)) (by cases k5 <;> simp [laws_FnRunnersMeetOfAll.j7])
                         ·
                          rw [if_neg c167] at H
                          have c167b0 : decide (t318 < 0) = false := decide_eq_false c167
                          clear c167
                          have H' := Aside0.mk H
                          clear H
                          obtain ⟨Ao168, co168, eo168⟩ := Kd.R_slice HO_27.out
                          subst eo168
                          go_wp2_with (first | (go_at_call 35; (with_reducible refine (laws_qHas.calls k5 _ _ t286 t318 true _ ?side1 ?side2 A165.out).mono ?_); (case side1 => repeat (first | exact (Kd.R_reads' HO_27.out).2.2 | (with_reducible refine Kd.C_alloc ?_ _) | (with_reducible refine Kd.C_drewN ?_ _) | (with_reducible refine Kd.C_drew ?_))); (case side2 => exact (Kd.R_reads' HO_27.out).2.1); rintro e w' ⟨rfl, ⟨nd, rfl⟩⟩))
                          go_meet
                          case rel => exact ⟨_, (decide (t318 ≥ a0)), (by first | rfl | (simp; done) | (simp [*]; done)), H', ⟨by have := HJ19.out; have := HJ88.out; have := HJ125.out; have := HJ138.out; have := HK5.out; first | omega | exact Nat.le_refl _⟩, ⟨by (with_reducible repeat (first | apply Kd.R_alloc | apply Kd.R_drewN | apply Kd.R_drew)); exact HO_27.out⟩, ⟨by (with_reducible repeat (first | apply Kd.R_alloc | apply Kd.R_drewN | apply Kd.R_drew)); exact HO_43.out⟩, ⟨by (with_reducible repeat (first | refine blk_drewN ?_ _ | refine blk_drew ?_ | refine blk_alloc ?_ _)); exact BK266.out⟩, ⟨by (with_reducible repeat (first | refine blk_drewN ?_ _ | refine blk_drew ?_ | refine blk_alloc ?_ _)); exact BK267.out⟩, ⟨bw_⟩⟩
                        ·
                         replace c166 := Bool.eq_false_iff.mpr c166
                         subst c166
                         rw [if_neg (show ¬ (false = true) by decide)] at H
                         exact absurd (H.trans (congrArg some HRT.out)) (by cases k5 <;> simp [laws_FnRunnersMeetOfAll.j7])
                       ·
                        rw [if_neg c164] at H
                        have c164b0 : (t318 == t320) = false := beq_eq_false_iff_ne.mpr c164
                        have c164b1 : (t318 != t320) = true := bne_iff_ne.mpr c164
                        (first | rw [c164b0] | (simp only [i64_w, i32_w]; rw [c164b0]) | skip)
                        by_cases c169 : t318 < 0
                        ·
                         rw [if_pos c169] at H
                         have c169b0 : decide (t318 < 0) = true := decide_eq_true c169
                         clear c169
                         exact absurd (H.trans (congrArg some HRT.out)) (by cases k5 <;> simp [laws_FnRunnersMeetOfAll.j7])
                        ·
                         rw [if_neg c169] at H
                         have c169b0 : decide (t318 < 0) = false := decide_eq_false c169
                         clear c169
                         have H' := Aside0.mk H
                         clear H
                         go_wp2
                         go_meet
                         case rel => exact ⟨_, (decide (t318 ≥ a0)), (by first | rfl | (simp; done) | (simp [*]; done)), H', ⟨by have := HJ19.out; have := HJ88.out; have := HJ125.out; have := HJ138.out; have := HK5.out; first | omega | exact Nat.le_refl _⟩, ⟨by (with_reducible repeat (first | apply Kd.R_alloc | apply Kd.R_drewN | apply Kd.R_drew)); exact HO_27.out⟩, ⟨by (with_reducible repeat (first | apply Kd.R_alloc | apply Kd.R_drewN | apply Kd.R_drew)); exact HO_43.out⟩, ⟨by (with_reducible repeat (first | refine blk_drewN ?_ _ | refine blk_drew ?_ | refine blk_alloc ?_ _)); exact BK266.out⟩, ⟨by (with_reducible repeat (first | refine blk_drewN ?_ _ | refine blk_drew ?_ | refine blk_alloc ?_ _)); exact BK267.out⟩, ⟨bw_⟩⟩
                      ·
                       replace c163 := Bool.eq_false_iff.mpr c163
                       subst c163
                       rw [if_neg (show ¬ (false = true) by decide)] at H
                       exact absurd (H.trans (congrArg some HRT.out)) (by cases k5 <;> simp [laws_FnRunnersMeetOfAll.j7])
                     ·
                      replace c162 := Bool.eq_false_iff.mpr c162
                      subst c162
                      rw [if_neg (show ¬ (false = true) by decide)] at H
                      exact absurd (H.trans (congrArg some HRT.out)) (by cases k5 <;> simp [laws_FnRunnersMeetOfAll.j7])
                    case rest => as_aux_lemma =>
                     clear HC156
                     (try clear c2); (try clear c5); (try clear c7); (try clear c7b0); (try clear c7b1); (try clear c88); (try clear c135); (try clear c137); (try clear c148); (try clear c149); (try clear c149b0); (try clear c149b1); (try clear c150); (try clear c150b0); (try clear c150b1); (try clear c153); (try clear c153b0); (try clear hcz141_0); (try clear hcz141_1); (try clear hcz142_0); (try clear hcz142_1); (try clear hcz158_0); (try clear hcz158_1); (try clear hcz160_0); (try clear hcz160_1); (try clear hcz24_0); (try clear hcz24_1); (try clear hcz25_0); (try clear hcz25_1); (try clear hcz27_0); (try clear hcz27_1); (try clear hcz28_0); (try clear hcz28_1); (try clear hcz30_0); (try clear hcz30_1); (try clear hcz31_0); (try clear hcz31_1); (try clear hcz33_0); (try clear hcz33_1); (try clear hcz34_0); (try clear hcz34_1); (try clear hcz36_0); (try clear hcz36_1); (try clear hcz37_0); (try clear hcz37_1); (try clear hcz39_0); (try clear hcz39_1); (try clear hcz40_0); (try clear hcz40_1); (try clear hcz42_0); (try clear hcz42_1); (try clear hcz43_0); (try clear hcz43_1); (try clear hcz45_0); (try clear hcz45_1); (try clear hcz46_0); (try clear hcz46_1); (try clear hcz48_0); (try clear hcz48_1); (try clear hcz49_0); (try clear hcz49_1); (try clear hcz51_0); (try clear hcz51_1); (try clear hcz52_0); (try clear hcz52_1); (try clear hfz141_0); (try clear hfz141_1); (try clear hfz142_0); (try clear hfz142_1); (try clear hfz158_0); (try clear hfz158_1); (try clear hfz160_0); (try clear hfz160_1); (try clear hfz24_0); (try clear hfz24_1); (try clear hfz25_0); (try clear hfz25_1); (try clear hfz27_0); (try clear hfz27_1); (try clear hfz28_0); (try clear hfz28_1); (try clear hfz30_0); (try clear hfz30_1); (try clear hfz31_0); (try clear hfz31_1); (try clear hfz33_0); (try clear hfz33_1); (try clear hfz34_0); (try clear hfz34_1); (try clear hfz36_0); (try clear hfz36_1); (try clear hfz37_0); (try clear hfz37_1); (try clear hfz39_0); (try clear hfz39_1); (try clear hfz40_0); (try clear hfz40_1); (try clear hfz42_0); (try clear hfz42_1); (try clear hfz43_0); (try clear hfz43_1); (try clear hfz45_0); (try clear hfz45_1); (try clear hfz46_0); (try clear hfz46_1); (try clear hfz48_0); (try clear hfz48_1); (try clear hfz49_0); (try clear hfz49_1); (try clear hfz51_0); (try clear hfz51_1); (try clear hfz52_0); (try clear hfz52_1)
                     obtain ⟨kq, x398_155, rfl, HA, HJ155, HO_27, HO_43, BK266, BK267, HB⟩ := hcut
                     cases kq with
                     | zero => exact absurd HA.out (by simp [laws_FnRunnersMeetOfAll.j7])
                     | succ kj155 =>
                      have H := HA.out
                      clear HA
                      simp only [laws_FnRunnersMeetOfAll.j7] at H
                      by_cases c170 : x398_155 = true
                      ·
                       subst c170
                       rw [if_pos rfl] at H
                       exact absurd ((Option.some.inj H).trans HRT.out) (by decide)
                      ·
                       replace c170 := Bool.eq_false_iff.mpr c170
                       subst c170
                       rw [if_neg (show ¬ (false = true) by decide)] at H
                       by_cases c171 : t318 = t320
                       ·
                        rw [if_pos c171] at H
                        have c171b0 : (t318 == t320) = true := beq_iff_eq.mpr c171
                        have c171b1 : (t318 != t320) = false := bne_eq_false_iff_eq.mpr c171
                        clear c171
                        by_cases c172 : 0 ≤ t318
                        ·
                         rw [if_pos c172] at H
                         have c172b0 : decide (0 ≤ t318) = true := decide_eq_true c172
                         clear c172
                         by_cases c173 : t318 < (x43_5.length : Int)
                         ·
                          rw [if_pos c173] at H
                          have c173b0 : decide (t318 < (x43_5.length : Int)) = true := decide_eq_true c173
                          clear c173
                          obtain ⟨bq174, hbq174⟩ : ∃ b_ : Bool, b_ = (rdOf false x43_5 t318) := ⟨_, rfl⟩
                          replace H : (if bq174 = true then (laws_FnRunnersMeetOfAll.l1 kj155 a0 a3 a4 l5 t276 t286 t294 t295 t313 x43_5 x44_5 (wrap64 (x45_5 + 1)) a1_0 a1_1 a2_0 a2_1) else (laws_FnRunnersMeetOfAll.l1 kj155 a0 a3 a4 l5 t276 t286 t294 t295 t313 (x43_5.set (t318 : Int).toNat true) (wrap64 (x44_5 + 1)) (wrap64 (x45_5 + 1)) a1_0 a1_1 a2_0 a2_1)) = some r := by rw [← hbq174] at H; exact H
                          have Nbq174 := Aside0.mk hbq174
                          clear hbq174
                          by_cases c175 : bq174 = true
                          ·
                           subst c175
                           rw [if_pos rfl] at H
                           have H' := Aside0.mk H
                           clear H
                           obtain ⟨Ao176, co176, eo176⟩ := Kd.R_slice HO_43.out
                           subst eo176
                           have p323 : 0 ≤ (t318 : Int) := of_decide_eq_true (by first | (with_reducible assumption) | assumption)
                           have q323 : t318 < (x43_5.length : Int) := of_decide_eq_true (by first | (with_reducible assumption) | assumption)
                           obtain ⟨ad323, e323, hx323_0⟩ := Kd.at_bool (Kd.R_reads' HO_43.out).2.2 t318 p323 q323
                           (try rw [← Nbq174.out] at hx323_0)
                           cases e323
                           replace p323 := eq_true p323
                           replace q323 := eq_true q323
                           go_wp2
                           go_roundg kj155
                           case measure => have := HJ19.out; have := HJ88.out; have := HJ125.out; have := HJ138.out; have := HK5.out; have := HJ155.out; omega
                           case rel => exact ⟨(x43_5), (x44_5), (wrap64 (x45_5 + 1)), (by first | rfl | (simp; done) | (simp [*]; done)), (by first | rfl | (simp; done) | (simp [*]; done)), H', ⟨by have := HJ19.out; have := HJ88.out; have := HJ125.out; have := HJ138.out; have := HK5.out; have := HJ155.out; omega⟩, ⟨by (with_reducible repeat (first | apply Kd.R_alloc | apply Kd.R_drewN | apply Kd.R_drew)); exact HO_27.out⟩, ⟨by (with_reducible repeat (first | apply Kd.R_alloc | apply Kd.R_drewN | apply Kd.R_drew)); exact HO_43.out⟩, ⟨by (with_reducible repeat (first | refine blk_drewN ?_ _ | refine blk_drew ?_ | refine blk_alloc ?_ _)); exact BK266.out⟩, ⟨by (with_reducible repeat (first | refine blk_drewN ?_ _ | refine blk_drew ?_ | refine blk_alloc ?_ _)); exact BK267.out⟩, ⟨bw_⟩⟩
                          ·
                           replace c175 := Bool.eq_false_iff.mpr c175
                           subst c175
                           rw [if_neg (show ¬ (false = true) by decide)] at H
                           obtain ⟨y324, hy324⟩ : ∃ y_ : List Bool, y_ = (x43_5.set (t318 : Int).toNat true) := ⟨_, rfl⟩
                           replace H : (laws_FnRunnersMeetOfAll.l1 kj155 a0 a3 a4 l5 t276 t286 t294 t295 t313 y324 (wrap64 (x44_5 + 1)) (wrap64 (x45_5 + 1)) a1_0 a1_1 a2_0 a2_1) = some r := by first | (rw [hy324]; with_reducible exact H) | (have H2_ := (Option.bind_some _ _).symm.trans H; rw [hy324]; with_reducible exact H2_) | (have H2_ := (Option.bind_some _ _).symm.trans H; with_reducible exact H2_) | with_reducible exact H | (rw [hy324]; exact H) | exact H
                           have Ny324 := Aside0.mk hy324
                           clear hy324
                           have H' := Aside0.mk H
                           clear H
                           obtain ⟨Ao178, co178, eo178⟩ := Kd.R_slice HO_43.out
                           subst eo178
                           have p323 : 0 ≤ (t318 : Int) := of_decide_eq_true (by first | (with_reducible assumption) | assumption)
                           have q323 : t318 < (x43_5.length : Int) := of_decide_eq_true (by first | (with_reducible assumption) | assumption)
                           obtain ⟨ad323, e323, hx323_0⟩ := Kd.at_bool (Kd.R_reads' HO_43.out).2.2 t318 p323 q323
                           (try rw [← Nbq174.out] at hx323_0)
                           cases e323
                           replace p323 := eq_true p323
                           replace q323 := eq_true q323
                           have p177 : 0 ≤ (t318 : Int) := of_decide_eq_true (by first | (with_reducible assumption) | assumption)
                           have q177 : (t318 : Int) < ((x43_5.length : Int) : Int) := of_decide_eq_true (by first | (with_reducible assumption) | assumption)
                           obtain ⟨go177, co177, eo177, gb177, gl177, cl177, HG177⟩ := Kd.R_form HO_43.out (by omega)
                           (first | cases eo177 | (injection eo177 with ea_ en_ ec_; (first | subst ea_ | (injection ea_ with ea_; subst ea_)); subst ec_; clear en_))
                           have GB177 := Aside0.mk gb177
                           have GG177 := Aside0.mk HG177
                           clear gb177 gl177 HG177
                           (first | simp only [add_plain] at hx323_0 | skip)
                           obtain ⟨hx177_0, hf177_0⟩ := Kd.R_celln false HO_43.out (t318 : Int) p177 q177
                           replace p177 := eq_true p177
                           replace q177 := eq_true q177
                           have HP179 := Kd.R_putg HO_43.out (t318 : Int) true
                           go_wp2_with (first | ((with_reducible refine gate_store (t := 4) (p := 411) rfl ?_); refine store_event (t := 4) (p := 411) (v := ?vo_w180) (w1 := (wc.setCell ⟨go177, (t318 : Int).toNat, none⟩ (.bool true))) ?hg ?ho ?hn ?hr ?_; (case ho => rfl); (case hg => rfl); (case hn => rfl); (case hr => first | (go_simp; done) | (go_simp; rfl)); intro w180 hw; have hg : wc.grownBy w180 (some go177) := (by rw [hw]; exact HP179.2); have hp_ : Kd.R Kd.bool 4 w180 w.heap.size (fun _ => True) (.slice (some ⟨go177, 0, none⟩) x43_5.length co178) y324 := (by rw [hw, Ny324.out]; exact HP179.1); clear HP179; have n0_ := Aside0.mk (Kd.R_over' (v := (.slice (some ⟨go177, 0, none⟩) x43_5.length co178)) (by (with_reducible repeat (first | apply Kd.R_alloc | apply Kd.R_drewN | apply Kd.R_drew)); exact HO_27.out) (Kd.R_typed HO_43.out) (by decide) hg); have n1_ := Aside0.mk (hp_); have n2_ := Aside0.mk (blk_grown (g := gb266) (o := .cells #[.int .i64 a1_0, .int .i64 a1_1] 45 (0, 0)) bk_ hg (Kd.R_ne HO_43.out BK266.out (by decide))); have n3_ := Aside0.mk (blk_grown (g := gb267) (o := .cells #[.int .i64 a2_0, .int .i64 a2_1] 45 (0, 0)) bk_ hg (Kd.R_ne HO_43.out BK267.out (by decide))); have n4_ := Aside0.mk ((by rw [hw]; exact below_set (HB.out) GB177.out : Below w.heap.size w w180)); clear HO_27; clear HO_43; clear BK266; clear BK267; clear HB; have HO_27 := n0_; have HO_43 := n1_; have BK266 := n2_; have BK267 := n3_; have HB := n4_; clear n0_ n1_ n2_ n3_ n4_; clear hg hw hp_))
                           go_roundg kj155
                           case measure => have := HJ19.out; have := HJ88.out; have := HJ125.out; have := HJ138.out; have := HK5.out; have := HJ155.out; omega
                           case rel => exact ⟨(y324), (wrap64 (x44_5 + 1)), (wrap64 (x45_5 + 1)), (by first | rfl | (simp; done) | (simp [*]; done)), (by first | rfl | (simp; done) | (simp [*]; done)), H', ⟨by have := HJ19.out; have := HJ88.out; have := HJ125.out; have := HJ138.out; have := HK5.out; have := HJ155.out; omega⟩, ⟨by (with_reducible repeat (first | apply Kd.R_alloc | apply Kd.R_drewN | apply Kd.R_drew)); exact HO_27.out⟩, ⟨by (with_reducible repeat (first | apply Kd.R_alloc | apply Kd.R_drewN | apply Kd.R_drew)); exact HO_43.out⟩, ⟨by (with_reducible repeat (first | refine blk_drewN ?_ _ | refine blk_drew ?_ | refine blk_alloc ?_ _)); exact BK266.out⟩, ⟨by (with_reducible repeat (first | refine blk_drewN ?_ _ | refine blk_drew ?_ | refine blk_alloc ?_ _)); exact BK267.out⟩, ⟨bw_⟩⟩
                         ·
                          rw [if_neg c173] at H
                          exact absurd H (by simp)
                        ·
                         rw [if_neg c172] at H
                         exact absurd H (by simp)
                       ·
                        rw [if_neg c171] at H
                        have c171b0 : (t318 == t320) = false := beq_eq_false_iff_ne.mpr c171
                        have c171b1 : (t318 != t320) = true := bne_iff_ne.mpr c171
                        have H' := Aside0.mk H
                        clear H
                        go_wp2
                        go_roundg kj155
                        case measure => have := HJ19.out; have := HJ88.out; have := HJ125.out; have := HJ138.out; have := HK5.out; have := HJ155.out; omega
                        case rel => exact ⟨(x43_5), (x44_5), (wrap64 (x45_5 + 1)), (by first | rfl | (simp; done) | (simp [*]; done)), (by first | rfl | (simp; done) | (simp [*]; done)), H', ⟨by have := HJ19.out; have := HJ88.out; have := HJ125.out; have := HJ138.out; have := HK5.out; have := HJ155.out; omega⟩, ⟨by (with_reducible repeat (first | apply Kd.R_alloc | apply Kd.R_drewN | apply Kd.R_drew)); exact HO_27.out⟩, ⟨by (with_reducible repeat (first | apply Kd.R_alloc | apply Kd.R_drewN | apply Kd.R_drew)); exact HO_43.out⟩, ⟨by (with_reducible repeat (first | refine blk_drewN ?_ _ | refine blk_drew ?_ | refine blk_alloc ?_ _)); exact BK266.out⟩, ⟨by (with_reducible repeat (first | refine blk_drewN ?_ _ | refine blk_drew ?_ | refine blk_alloc ?_ _)); exact BK267.out⟩, ⟨bw_⟩⟩
                   ·
                    rw [if_neg c153] at H
                    have c153b0 : decide (x45_5 < t313) = false := decide_eq_false c153
                    clear c153
                    by_cases c181 : x44_5 = (t286.length : Int)
                    ·
                     rw [if_pos c181] at H
                     have c181b0 : (x44_5 == (t286.length : Int)) = true := beq_iff_eq.mpr c181
                     have c181b1 : (x44_5 != (t286.length : Int)) = false := bne_eq_false_iff_eq.mpr c181
                     clear c181
                     have H' := Aside0.mk H
                     clear H
                     obtain ⟨Ao182, co182, eo182⟩ := Kd.R_slice HO_27.out
                     subst eo182
                     go_wp2
                     go_meet
                     case rel => exact ⟨_, H', ⟨by have := HJ19.out; have := HJ88.out; have := HJ125.out; have := HJ138.out; have := HK5.out; first | omega | exact Nat.le_refl _⟩, ⟨by (with_reducible repeat (first | refine blk_drewN ?_ _ | refine blk_drew ?_ | refine blk_alloc ?_ _)); exact BK266.out⟩, ⟨by (with_reducible repeat (first | refine blk_drewN ?_ _ | refine blk_drew ?_ | refine blk_alloc ?_ _)); exact BK267.out⟩, ⟨bw_⟩⟩
                    ·
                     rw [if_neg c181] at H
                     have c181b0 : (x44_5 == (t286.length : Int)) = false := beq_eq_false_iff_ne.mpr c181
                     have c181b1 : (x44_5 != (t286.length : Int)) = true := bne_iff_ne.mpr c181
                     exact absurd ((Option.some.inj H).trans HRT.out) (by decide)
                ·
                 rw [if_neg c150] at H
                 exact absurd H (by simp)
               ·
                rw [if_neg c149] at H
                exact absurd H (by simp)
           ·
            replace c137 := Bool.eq_false_iff.mpr c137
            subst c137
            rw [if_neg (show ¬ (false = true) by decide)] at H
            have H' := Aside0.mk H
            clear H
            go_wp2
            go_meet
            case rel => exact ⟨_, H', ⟨by have := HJ19.out; have := HJ88.out; have := HJ125.out; first | omega | exact Nat.le_refl _⟩, ⟨by (with_reducible repeat (first | refine blk_drewN ?_ _ | refine blk_drew ?_ | refine blk_alloc ?_ _)); exact BK266.out⟩, ⟨by (with_reducible repeat (first | refine blk_drewN ?_ _ | refine blk_drew ?_ | refine blk_alloc ?_ _)); exact BK267.out⟩, ⟨bw_⟩⟩
end Go.Proofs.Ytgobnhoblofglaa.PFnRunnersMeetOfAll
