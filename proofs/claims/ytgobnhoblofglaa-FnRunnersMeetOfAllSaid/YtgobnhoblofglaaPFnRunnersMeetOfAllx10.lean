-- Laid by a program of this session's (wip/gen/printp.sh): the functions that the law reaches, each with its walk.
import Derived.Test.YtgobnhoblofglaaPFnRunnersMeetOfAllx0
import Derived.Test.YtgobnhoblofglaaPFnRunnersMeetOfAllx1
import Derived.Test.YtgobnhoblofglaaPFnRunnersMeetOfAllx2
import Derived.Test.YtgobnhoblofglaaPFnRunnersMeetOfAllx3
import Derived.Test.YtgobnhoblofglaaPFnRunnersMeetOfAllx4
import Derived.Test.YtgobnhoblofglaaPFnRunnersMeetOfAllx5
import Derived.Test.YtgobnhoblofglaaPFnRunnersMeetOfAllx6
import Derived.Test.YtgobnhoblofglaaPFnRunnersMeetOfAllx7
import Derived.Test.YtgobnhoblofglaaPFnRunnersMeetOfAllx8
import Derived.Test.YtgobnhoblofglaaPFnRunnersMeetOfAllx9
namespace Go.Proofs.Ytgobnhoblofglaa.PFnRunnersMeetOfAll
open Go.RowKit Go.Proofs.YtgobnhoblofglaaW.PrintWords Go.Proofs.YtgobnhoblofglaaW.PrintLast Go.Proofs.YtgobnhoblofglaaW.PrintMore
attribute [local go_sem] max2_int min2_int max_two min_two max_three min_three max_four min_four   -- for this text's walks alone
set_option linter.unusedVariables false
set_option linter.unusedSimpArgs false

theorem bw_ {w W : World} (h : Below w.heap.size w W := by repeat (first | (with_reducible first | exact HB.out | apply below_alloc | apply pw_below_drewN | apply below_drew1 | refine below_set ?_ (Aside0.out (by assumption))) | exact HB.out)) : Below w.heap.size w W := h
theorem bk_ {W : World} {g : Nat} {o : Obj} (h : W.heap[g]? = some o := by (with_reducible repeat (first | refine blk_drewN ?_ _ | refine blk_drew ?_ | refine blk_alloc ?_ _)); exact Aside0.out (by assumption)) : W.heap[g]? = some o := h
set_option maxHeartbeats 80000000 in
set_option maxRecDepth 100000 in
theorem laws_FnRunnersMeetOfAll.calls (k : Nat) (a0 : Int) (a1_0 : Int) (a1_1 : Int) (a2_0 : Int) (a2_1 : Int) (a3 : Int) (a4 : Int) (A5 : Option Addr) (c5 : Nat) (l5 : List (S45)) (r : Bool) (w : World) (hr5 : Kd.C k45 w A5 l5.length l5) (hc5 : l5.length ≤ c5) (h : laws_FnRunnersMeetOfAll.f k a0 a1_0 a1_1 a2_0 a2_1 a3 a4 l5 = some r) (hrt : r = true) :
  Calls Try.prog 5 #[.int .i64 a0, .agg #[.int .i64 a1_0, .int .i64 a1_1], .agg #[.int .i64 a2_0, .int .i64 a2_1], .int .i64 a3, .int .i64 a4, .slice A5 l5.length c5] w fun e w' => e = .returned (.bool r) ∧ Below w.heap.size w w' := by
 have HRT := Aside0.mk hrt
 clear hrt
 have hu45 := Try.underlying45
 have HR5 := Aside0.mk hr5
 have HC5 := Aside0.mk hc5
 clear hr5 hc5
 have HB := Aside0.mk (Below.refl w.heap.size w)
 have H : (if (l5.length : Int) > 10000 then (some true) else ((impl_MeetingTimes.f k a0 a1_0 a1_1 a2_0 a2_1 a3).bind fun bt268 => ((spec_MeetingTimes.f k a0 a1_0 a1_1 a2_0 a2_1 a3).bind fun bt272 => ((impl_CountOvertakings.f k a0 a1_0 a1_1 a2_0 a2_1 a3).bind fun bt276 => ((spec_CountOvertakings.f k a0 a1_0 a1_1 a2_0 a2_1 a3).bind fun bt278 => ((impl_FirstMeet.f k a0 a1_0 a1_1 a2_0 a2_1).bind fun bt280 => ((spec_FirstMeet.f k a0 a1_0 a1_1 a2_0 a2_1).bind fun bt283 => ((impl_MeetingPlaces.f k a0 a1_0 a1_1 a2_0 a2_1).bind fun bt286 => ((spec_MeetingPlaces.f k a0 a1_0 a1_1 a2_0 a2_1).bind fun bt290 => ((impl_LeadBetween.f k a0 a1_0 a1_1 a2_0 a2_1 a3).bind fun bt294 => ((spec_LeadBetween.f k a0 a1_0 a1_1 a2_0 a2_1 a3).bind fun bt296 => (if (bt268.2 != bt272.2) = true then (laws_FnRunnersMeetOfAll.j0 k a0 a3 a4 l5 bt268.1 bt268.2 bt276.1 bt280.1 bt280.2.1 bt280.2.2 bt286.1 bt286.2 bt294.1 bt294.2 true a1_0 a1_1 a2_0 a2_1) else ((laws_qSame.f k bt268.1 bt272.1).bind fun t298 => (if t298 = true then (if (bt276.2 != bt278.2) = true then (laws_FnRunnersMeetOfAll.j0 k a0 a3 a4 l5 bt268.1 bt268.2 bt276.1 bt280.1 bt280.2.1 bt280.2.2 bt286.1 bt286.2 bt294.1 bt294.2 true a1_0 a1_1 a2_0 a2_1) else (if bt276.1 = bt278.1 then (if (bt280.2.2 != bt283.2.2) = true then (laws_FnRunnersMeetOfAll.j0 k a0 a3 a4 l5 bt268.1 bt268.2 bt276.1 bt280.1 bt280.2.1 bt280.2.2 bt286.1 bt286.2 bt294.1 bt294.2 true a1_0 a1_1 a2_0 a2_1) else (if bt280.1 = bt283.1 then (if bt280.2.1 = bt283.2.1 then (if (bt286.2 != bt290.2) = true then (laws_FnRunnersMeetOfAll.j0 k a0 a3 a4 l5 bt268.1 bt268.2 bt276.1 bt280.1 bt280.2.1 bt280.2.2 bt286.1 bt286.2 bt294.1 bt294.2 true a1_0 a1_1 a2_0 a2_1) else ((laws_qSame.f k bt286.1 bt290.1).bind fun t299 => (if t299 = true then (if (bt294.2 != bt296.2) = true then (laws_FnRunnersMeetOfAll.j0 k a0 a3 a4 l5 bt268.1 bt268.2 bt276.1 bt280.1 bt280.2.1 bt280.2.2 bt286.1 bt286.2 bt294.1 bt294.2 true a1_0 a1_1 a2_0 a2_1) else (if bt294.1 = bt296.1 then (if (bt276.2 != bt294.2) = true then (laws_FnRunnersMeetOfAll.j0 k a0 a3 a4 l5 bt268.1 bt268.2 bt276.1 bt280.1 bt280.2.1 bt280.2.2 bt286.1 bt286.2 bt294.1 bt294.2 true a1_0 a1_1 a2_0 a2_1) else (if bt268.2 = true then (if bt276.2 = true then (if bt280.2.2 = true then (laws_FnRunnersMeetOfAll.j0 k a0 a3 a4 l5 bt268.1 bt268.2 bt276.1 bt280.1 bt280.2.1 bt280.2.2 bt286.1 bt286.2 bt294.1 bt294.2 (!bt286.2) a1_0 a1_1 a2_0 a2_1) else (laws_FnRunnersMeetOfAll.j0 k a0 a3 a4 l5 bt268.1 bt268.2 bt276.1 bt280.1 bt280.2.1 bt280.2.2 bt286.1 bt286.2 bt294.1 bt294.2 false a1_0 a1_1 a2_0 a2_1)) else (laws_FnRunnersMeetOfAll.j0 k a0 a3 a4 l5 bt268.1 bt268.2 bt276.1 bt280.1 bt280.2.1 bt280.2.2 bt286.1 bt286.2 bt294.1 bt294.2 true a1_0 a1_1 a2_0 a2_1)) else (if bt280.2.2 = true then (laws_FnRunnersMeetOfAll.j0 k a0 a3 a4 l5 bt268.1 bt268.2 bt276.1 bt280.1 bt280.2.1 bt280.2.2 bt286.1 bt286.2 bt294.1 bt294.2 (!bt286.2) a1_0 a1_1 a2_0 a2_1) else (laws_FnRunnersMeetOfAll.j0 k a0 a3 a4 l5 bt268.1 bt268.2 bt276.1 bt280.1 bt280.2.1 bt280.2.2 bt286.1 bt286.2 bt294.1 bt294.2 false a1_0 a1_1 a2_0 a2_1)))) else (laws_FnRunnersMeetOfAll.j0 k a0 a3 a4 l5 bt268.1 bt268.2 bt276.1 bt280.1 bt280.2.1 bt280.2.2 bt286.1 bt286.2 bt294.1 bt294.2 true a1_0 a1_1 a2_0 a2_1))) else (laws_FnRunnersMeetOfAll.j0 k a0 a3 a4 l5 bt268.1 bt268.2 bt276.1 bt280.1 bt280.2.1 bt280.2.2 bt286.1 bt286.2 bt294.1 bt294.2 true a1_0 a1_1 a2_0 a2_1)))) else (laws_FnRunnersMeetOfAll.j0 k a0 a3 a4 l5 bt268.1 bt268.2 bt276.1 bt280.1 bt280.2.1 bt280.2.2 bt286.1 bt286.2 bt294.1 bt294.2 true a1_0 a1_1 a2_0 a2_1)) else (laws_FnRunnersMeetOfAll.j0 k a0 a3 a4 l5 bt268.1 bt268.2 bt276.1 bt280.1 bt280.2.1 bt280.2.2 bt286.1 bt286.2 bt294.1 bt294.2 true a1_0 a1_1 a2_0 a2_1))) else (laws_FnRunnersMeetOfAll.j0 k a0 a3 a4 l5 bt268.1 bt268.2 bt276.1 bt280.1 bt280.2.1 bt280.2.2 bt286.1 bt286.2 bt294.1 bt294.2 true a1_0 a1_1 a2_0 a2_1))) else (laws_FnRunnersMeetOfAll.j0 k a0 a3 a4 l5 bt268.1 bt268.2 bt276.1 bt280.1 bt280.2.1 bt280.2.2 bt286.1 bt286.2 bt294.1 bt294.2 true a1_0 a1_1 a2_0 a2_1))))))))))))))) = some r := h
 clear h
 by_cases c7 : (l5.length : Int) > 10000
 ·
  rw [if_pos c7] at H
  have c7b0 : decide (10000 < (l5.length : Int)) = true := decide_eq_true c7
  have c7b1 : decide (10000 < l5.length) = true := decide_eq_true (by omega)
  clear c7
  obtain rfl := Option.some.inj H
  go_enter Try.func5, Try.ntmps5
  go_wp2_with (first | ((with_reducible refine gate_dst (N := 7) rfl ?_); (try (refine gate_guard (by rfl) ?_; dsimp only)); refine box_event ?hg (N := 7) ?hd (cs := #[.int .i64 a1_0, .int .i64 a1_1]) (t := 45) ?hr ?_; (case hd => rfl); (case hg => rfl); (case hr => first | (go_simp; done) | (go_simp; rfl)); intro gb266 hg w8 hbox hb; have n0_ := Aside0.mk (below_step bw_ hb); have n1_ := Aside0.mk (hbox); have n2_ := Aside0.mk ((by rw [hg]; exact (below_size bw_) : w.heap.size ≤ gb266)); have n3_ := Aside0.mk ((by rw [hg]; exact (below_size bw_) : w.heap.size ≤ gb266)); clear HB; have HB := n0_; have BK266 := n1_; have GW266 := n2_; have GE266 := n3_; clear n0_ n1_ n2_ n3_; clear hb hbox hg) | ((with_reducible refine gate_dst (N := 8) rfl ?_); (try (refine gate_guard (by rfl) ?_; dsimp only)); refine box_event ?hg (N := 8) ?hd (cs := #[.int .i64 a2_0, .int .i64 a2_1]) (t := 45) ?hr ?_; (case hd => rfl); (case hg => rfl); (case hr => first | (go_simp; done) | (go_simp; rfl)); intro gb267 hg w9 hbox hb; have n0_ := Aside0.mk (blk_below (g := gb266) (o := .cells #[.int .i64 a1_0, .int .i64 a1_1] 45 (0, 0)) bk_ hb); have n1_ := Aside0.mk (below_step bw_ hb); have n2_ := Aside0.mk (hbox); have n3_ := Aside0.mk ((by rw [hg]; exact (below_size bw_) : w.heap.size ≤ gb267)); have n4_ := Aside0.mk ((by rw [hg]; exact (below_size bw_) : w.heap.size ≤ gb267)); have n5_ := Aside0.mk ((by rw [hg]; exact Nat.ne_of_lt (blk_lt (g := gb266) (o := .cells #[.int .i64 a1_0, .int .i64 a1_1] 45 (0, 0)) bk_) : gb266 ≠ gb267)); have n6_ := Aside0.mk ((by rw [hg]; exact Nat.ne_of_gt (blk_lt (g := gb266) (o := .cells #[.int .i64 a1_0, .int .i64 a1_1] 45 (0, 0)) bk_) : gb267 ≠ gb266)); clear BK266; clear HB; have BK266 := n0_; have HB := n1_; have BK267 := n2_; have GW267 := n3_; have GE267 := n4_; have NB266_267 := n5_; have NB267_266 := n6_; clear n0_ n1_ n2_ n3_ n4_ n5_ n6_; clear hb hbox hg))
  go_ret
  exact ⟨by first | rfl | (simp [errW_none, errW_some] <;> rfl) | (simp [*, errW_none, errW_some] <;> rfl), by repeat (first | (with_reducible first | exact HB.out | apply below_alloc | apply pw_below_drewN | apply below_drew1 | refine below_set ?_ GE266.out | refine below_set ?_ GE267.out) | exact HB.out)⟩
 ·
  rw [if_neg c7] at H
  have c7b0 : decide (10000 < (l5.length : Int)) = false := decide_eq_false c7
  have c7b1 : decide (10000 < l5.length) = false := decide_eq_false (by omega)
  clear c7
  replace H := Option.bind_eq_some_iff.mp H
  obtain ⟨⟨t268, t271⟩, A100, H⟩ := H
  (try dsimp only at H)
  have A10 := Aside0.mk A100
  clear A100
  replace H := Option.bind_eq_some_iff.mp H
  obtain ⟨⟨t272, t275⟩, A110, H⟩ := H
  (try dsimp only at H)
  have A11 := Aside0.mk A110
  clear A110
  replace H := Option.bind_eq_some_iff.mp H
  obtain ⟨⟨t276, t277⟩, A120, H⟩ := H
  (try dsimp only at H)
  have A12 := Aside0.mk A120
  clear A120
  replace H := Option.bind_eq_some_iff.mp H
  obtain ⟨⟨t278, t279⟩, A130, H⟩ := H
  (try dsimp only at H)
  have A13 := Aside0.mk A130
  clear A130
  replace H := Option.bind_eq_some_iff.mp H
  obtain ⟨⟨t280, t281, t282⟩, A140, H⟩ := H
  (try dsimp only at H)
  have A14 := Aside0.mk A140
  clear A140
  replace H := Option.bind_eq_some_iff.mp H
  obtain ⟨⟨t283, t284, t285⟩, A150, H⟩ := H
  (try dsimp only at H)
  have A15 := Aside0.mk A150
  clear A150
  replace H := Option.bind_eq_some_iff.mp H
  obtain ⟨⟨t286, t289⟩, A160, H⟩ := H
  (try dsimp only at H)
  have A16 := Aside0.mk A160
  clear A160
  replace H := Option.bind_eq_some_iff.mp H
  obtain ⟨⟨t290, t293⟩, A170, H⟩ := H
  (try dsimp only at H)
  have A17 := Aside0.mk A170
  clear A170
  replace H := Option.bind_eq_some_iff.mp H
  obtain ⟨⟨t294, t295⟩, A180, H⟩ := H
  (try dsimp only at H)
  have A18 := Aside0.mk A180
  clear A180
  replace H := Option.bind_eq_some_iff.mp H
  obtain ⟨⟨t296, t297⟩, A190, H⟩ := H
  (try dsimp only at H)
  have A19 := Aside0.mk A190
  clear A190
  have HC20 := Aside0.mk H
  clear H
  go_enter Try.func5, Try.ntmps5
  go_upto_region 13 with (first | ((with_reducible refine gate_dst (N := 7) rfl ?_); (try (refine gate_guard (by rfl) ?_; dsimp only)); refine box_event ?hg (N := 7) ?hd (cs := #[.int .i64 a1_0, .int .i64 a1_1]) (t := 45) ?hr ?_; (case hd => rfl); (case hg => rfl); (case hr => first | (go_simp; done) | (go_simp; rfl)); intro gb266 hg w21 hbox hb; have n0_ := Aside0.mk (below_step bw_ hb); have n1_ := Aside0.mk (hbox); have n2_ := Aside0.mk ((by rw [hg]; exact (below_size bw_) : w.heap.size ≤ gb266)); have n3_ := Aside0.mk ((by rw [hg]; exact (below_size bw_) : w.heap.size ≤ gb266)); clear HB; have HB := n0_; have BK266 := n1_; have GW266 := n2_; have GE266 := n3_; clear n0_ n1_ n2_ n3_; clear hb hbox hg) | ((with_reducible refine gate_dst (N := 8) rfl ?_); (try (refine gate_guard (by rfl) ?_; dsimp only)); refine box_event ?hg (N := 8) ?hd (cs := #[.int .i64 a2_0, .int .i64 a2_1]) (t := 45) ?hr ?_; (case hd => rfl); (case hg => rfl); (case hr => first | (go_simp; done) | (go_simp; rfl)); intro gb267 hg w22 hbox hb; have n0_ := Aside0.mk (blk_below (g := gb266) (o := .cells #[.int .i64 a1_0, .int .i64 a1_1] 45 (0, 0)) bk_ hb); have n1_ := Aside0.mk (below_step bw_ hb); have n2_ := Aside0.mk (hbox); have n3_ := Aside0.mk ((by rw [hg]; exact (below_size bw_) : w.heap.size ≤ gb267)); have n4_ := Aside0.mk ((by rw [hg]; exact (below_size bw_) : w.heap.size ≤ gb267)); have n5_ := Aside0.mk ((by rw [hg]; exact Nat.ne_of_lt (blk_lt (g := gb266) (o := .cells #[.int .i64 a1_0, .int .i64 a1_1] 45 (0, 0)) bk_) : gb266 ≠ gb267)); have n6_ := Aside0.mk ((by rw [hg]; exact Nat.ne_of_gt (blk_lt (g := gb266) (o := .cells #[.int .i64 a1_0, .int .i64 a1_1] 45 (0, 0)) bk_) : gb267 ≠ gb266)); clear BK266; clear HB; have BK266 := n0_; have HB := n1_; have BK267 := n2_; have GW267 := n3_; have GE267 := n4_; have NB266_267 := n5_; have NB267_266 := n6_; clear n0_ n1_ n2_ n3_ n4_ n5_ n6_; clear hb hbox hg; have hnb23 := NB266_267.out; have hnc23 := NB267_266.out; have hcz24_0 : w22.cell? ⟨gb266, 0, none⟩ = some (.int .i64 a1_0) := (blk_cell BK266.out 0).trans rfl; have hcz24_1 : w22.cell? ⟨gb266, 1, none⟩ = some (.int .i64 a1_1) := (blk_cell BK266.out 1).trans rfl; have hfz24_0 := blk_frozen BK266.out 0; have hfz24_1 := blk_frozen BK266.out 1; have hcz25_0 : w22.cell? ⟨gb267, 0, none⟩ = some (.int .i64 a2_0) := (blk_cell BK267.out 0).trans rfl; have hcz25_1 : w22.cell? ⟨gb267, 1, none⟩ = some (.int .i64 a2_1) := (blk_cell BK267.out 1).trans rfl; have hfz25_0 := blk_frozen BK267.out 0; have hfz25_1 := blk_frozen BK267.out 1) | ((with_reducible refine gate_callee (f := 22) rfl ?_); refine goesL_ (some 87) rfl rfl Try.func22 (by kernel_rfl) rfl #[.int .i64 a0, .agg #[.int .i64 a1_0, .int .i64 a1_1], .agg #[.int .i64 a2_0, .int .i64 a2_1], .int .i64 a3] rfl (by (try simp only [List.map_toArray, List.map_cons, List.map_nil]); first | done | rfl | (simp only [List.length_drop, List.length_take]; rfl)) ?_; (with_reducible refine (impl_MeetingTimes.calls k a0 a1_0 a1_1 a2_0 a2_1 a3 t268 t271 _ A10.out).mono ?_); rintro e w26 ⟨v269, rfl, ho0, hb⟩; refine ⟨_, rfl, ?_⟩; have n0_ := Aside0.mk (Kd.R_lower ho0 (below_size bw_)); have n1_ := Aside0.mk (blk_below (g := gb266) (o := .cells #[.int .i64 a1_0, .int .i64 a1_1] 45 (0, 0)) bk_ hb); have n2_ := Aside0.mk (blk_below (g := gb267) (o := .cells #[.int .i64 a2_0, .int .i64 a2_1] 45 (0, 0)) bk_ hb); have n3_ := Aside0.mk (below_step bw_ hb); clear BK266; clear BK267; clear HB; have HO270 := n0_; have BK266 := n1_; have BK267 := n2_; have HB := n3_; clear n0_ n1_ n2_ n3_; (try clear hb); (try clear hb2); (try clear hk); (try clear hi); (try clear ho0); have hcz27_0 : w26.cell? ⟨gb266, 0, none⟩ = some (.int .i64 a1_0) := (blk_cell BK266.out 0).trans rfl; have hcz27_1 : w26.cell? ⟨gb266, 1, none⟩ = some (.int .i64 a1_1) := (blk_cell BK266.out 1).trans rfl; have hfz27_0 := blk_frozen BK266.out 0; have hfz27_1 := blk_frozen BK266.out 1; have hcz28_0 : w26.cell? ⟨gb267, 0, none⟩ = some (.int .i64 a2_0) := (blk_cell BK267.out 0).trans rfl; have hcz28_1 : w26.cell? ⟨gb267, 1, none⟩ = some (.int .i64 a2_1) := (blk_cell BK267.out 1).trans rfl; have hfz28_0 := blk_frozen BK267.out 0; have hfz28_1 := blk_frozen BK267.out 1) | ((with_reducible refine gate_callee (f := 23) rfl ?_); refine goesL_ (some 95) rfl rfl Try.func23 (by kernel_rfl) rfl #[.int .i64 a0, .agg #[.int .i64 a1_0, .int .i64 a1_1], .agg #[.int .i64 a2_0, .int .i64 a2_1], .int .i64 a3] rfl (by (try simp only [List.map_toArray, List.map_cons, List.map_nil]); first | done | rfl | (simp only [List.length_drop, List.length_take]; rfl)) ?_; (with_reducible refine (spec_MeetingTimes.calls k a0 a1_0 a1_1 a2_0 a2_1 a3 t272 t275 _ A11.out).mono ?_); rintro e w29 ⟨v273, rfl, ho0, hb⟩; refine ⟨_, rfl, ?_⟩; have n0_ := Aside0.mk (Kd.R_elder' (by (with_reducible repeat (first | apply Kd.R_alloc | apply Kd.R_drewN | apply Kd.R_drew)); exact HO270.out) (Kd.R_base ho0) hb); have n1_ := Aside0.mk (Kd.R_lower (Kd.R_new' ho0 (Kd.R_lt (by (with_reducible repeat (first | apply Kd.R_alloc | apply Kd.R_drewN | apply Kd.R_drew)); exact HO270.out))) (below_size bw_)); have n2_ := Aside0.mk (blk_below (g := gb266) (o := .cells #[.int .i64 a1_0, .int .i64 a1_1] 45 (0, 0)) bk_ hb); have n3_ := Aside0.mk (blk_below (g := gb267) (o := .cells #[.int .i64 a2_0, .int .i64 a2_1] 45 (0, 0)) bk_ hb); have n4_ := Aside0.mk (below_step bw_ hb); clear HO270; clear BK266; clear BK267; clear HB; have HO270 := n0_; have HO274 := n1_; have BK266 := n2_; have BK267 := n3_; have HB := n4_; clear n0_ n1_ n2_ n3_ n4_; (try clear hb); (try clear hb2); (try clear hk); (try clear hi); (try clear ho0); have hcz30_0 : w29.cell? ⟨gb266, 0, none⟩ = some (.int .i64 a1_0) := (blk_cell BK266.out 0).trans rfl; have hcz30_1 : w29.cell? ⟨gb266, 1, none⟩ = some (.int .i64 a1_1) := (blk_cell BK266.out 1).trans rfl; have hfz30_0 := blk_frozen BK266.out 0; have hfz30_1 := blk_frozen BK266.out 1; have hcz31_0 : w29.cell? ⟨gb267, 0, none⟩ = some (.int .i64 a2_0) := (blk_cell BK267.out 0).trans rfl; have hcz31_1 : w29.cell? ⟨gb267, 1, none⟩ = some (.int .i64 a2_1) := (blk_cell BK267.out 1).trans rfl; have hfz31_0 := blk_frozen BK267.out 0; have hfz31_1 := blk_frozen BK267.out 1) | ((with_reducible refine gate_callee (f := 24) rfl ?_); refine goesL_ (some 103) rfl rfl Try.func24 (by kernel_rfl) rfl #[.int .i64 a0, .agg #[.int .i64 a1_0, .int .i64 a1_1], .agg #[.int .i64 a2_0, .int .i64 a2_1], .int .i64 a3] rfl (by (try simp only [List.map_toArray, List.map_cons, List.map_nil]); first | done | rfl | (simp only [List.length_drop, List.length_take]; rfl)) ?_; (with_reducible refine (impl_CountOvertakings.calls k a0 a1_0 a1_1 a2_0 a2_1 a3 t276 t277 _ A12.out).mono ?_); rintro e w32 ⟨rfl, hb⟩; refine ⟨_, rfl, ?_⟩; have n0_ := Aside0.mk (Kd.R_below (by (with_reducible repeat (first | apply Kd.R_alloc | apply Kd.R_drewN | apply Kd.R_drew)); exact HO270.out) hb); have n1_ := Aside0.mk (Kd.R_below (by (with_reducible repeat (first | apply Kd.R_alloc | apply Kd.R_drewN | apply Kd.R_drew)); exact HO274.out) hb); have n2_ := Aside0.mk (blk_below (g := gb266) (o := .cells #[.int .i64 a1_0, .int .i64 a1_1] 45 (0, 0)) bk_ hb); have n3_ := Aside0.mk (blk_below (g := gb267) (o := .cells #[.int .i64 a2_0, .int .i64 a2_1] 45 (0, 0)) bk_ hb); have n4_ := Aside0.mk (below_step bw_ hb); clear HO270; clear HO274; clear BK266; clear BK267; clear HB; have HO270 := n0_; have HO274 := n1_; have BK266 := n2_; have BK267 := n3_; have HB := n4_; clear n0_ n1_ n2_ n3_ n4_; (try clear hb); (try clear hb2); (try clear hk); (try clear hi); have hcz33_0 : w32.cell? ⟨gb266, 0, none⟩ = some (.int .i64 a1_0) := (blk_cell BK266.out 0).trans rfl; have hcz33_1 : w32.cell? ⟨gb266, 1, none⟩ = some (.int .i64 a1_1) := (blk_cell BK266.out 1).trans rfl; have hfz33_0 := blk_frozen BK266.out 0; have hfz33_1 := blk_frozen BK266.out 1; have hcz34_0 : w32.cell? ⟨gb267, 0, none⟩ = some (.int .i64 a2_0) := (blk_cell BK267.out 0).trans rfl; have hcz34_1 : w32.cell? ⟨gb267, 1, none⟩ = some (.int .i64 a2_1) := (blk_cell BK267.out 1).trans rfl; have hfz34_0 := blk_frozen BK267.out 0; have hfz34_1 := blk_frozen BK267.out 1) | ((with_reducible refine gate_callee (f := 25) rfl ?_); refine goesL_ (some 111) rfl rfl Try.func25 (by kernel_rfl) rfl #[.int .i64 a0, .agg #[.int .i64 a1_0, .int .i64 a1_1], .agg #[.int .i64 a2_0, .int .i64 a2_1], .int .i64 a3] rfl (by (try simp only [List.map_toArray, List.map_cons, List.map_nil]); first | done | rfl | (simp only [List.length_drop, List.length_take]; rfl)) ?_; (with_reducible refine (spec_CountOvertakings.calls k a0 a1_0 a1_1 a2_0 a2_1 a3 t278 t279 _ A13.out).mono ?_); rintro e w35 ⟨rfl, hb⟩; refine ⟨_, rfl, ?_⟩; have n0_ := Aside0.mk (Kd.R_below (by (with_reducible repeat (first | apply Kd.R_alloc | apply Kd.R_drewN | apply Kd.R_drew)); exact HO270.out) hb); have n1_ := Aside0.mk (Kd.R_below (by (with_reducible repeat (first | apply Kd.R_alloc | apply Kd.R_drewN | apply Kd.R_drew)); exact HO274.out) hb); have n2_ := Aside0.mk (blk_below (g := gb266) (o := .cells #[.int .i64 a1_0, .int .i64 a1_1] 45 (0, 0)) bk_ hb); have n3_ := Aside0.mk (blk_below (g := gb267) (o := .cells #[.int .i64 a2_0, .int .i64 a2_1] 45 (0, 0)) bk_ hb); have n4_ := Aside0.mk (below_step bw_ hb); clear HO270; clear HO274; clear BK266; clear BK267; clear HB; have HO270 := n0_; have HO274 := n1_; have BK266 := n2_; have BK267 := n3_; have HB := n4_; clear n0_ n1_ n2_ n3_ n4_; (try clear hb); (try clear hb2); (try clear hk); (try clear hi); have hcz36_0 : w35.cell? ⟨gb266, 0, none⟩ = some (.int .i64 a1_0) := (blk_cell BK266.out 0).trans rfl; have hcz36_1 : w35.cell? ⟨gb266, 1, none⟩ = some (.int .i64 a1_1) := (blk_cell BK266.out 1).trans rfl; have hfz36_0 := blk_frozen BK266.out 0; have hfz36_1 := blk_frozen BK266.out 1; have hcz37_0 : w35.cell? ⟨gb267, 0, none⟩ = some (.int .i64 a2_0) := (blk_cell BK267.out 0).trans rfl; have hcz37_1 : w35.cell? ⟨gb267, 1, none⟩ = some (.int .i64 a2_1) := (blk_cell BK267.out 1).trans rfl; have hfz37_0 := blk_frozen BK267.out 0; have hfz37_1 := blk_frozen BK267.out 1) | ((with_reducible refine gate_callee (f := 26) rfl ?_); refine goesL_ (some 118) rfl rfl Try.func26 (by kernel_rfl) rfl #[.int .i64 a0, .agg #[.int .i64 a1_0, .int .i64 a1_1], .agg #[.int .i64 a2_0, .int .i64 a2_1]] rfl (by (try simp only [List.map_toArray, List.map_cons, List.map_nil]); first | done | rfl | (simp only [List.length_drop, List.length_take]; rfl)) ?_; (with_reducible refine (impl_FirstMeet.calls k a0 a1_0 a1_1 a2_0 a2_1 t280 t281 t282 _ A14.out).mono ?_); rintro e w38 ⟨rfl, hb⟩; refine ⟨_, rfl, ?_⟩; have n0_ := Aside0.mk (Kd.R_below (by (with_reducible repeat (first | apply Kd.R_alloc | apply Kd.R_drewN | apply Kd.R_drew)); exact HO270.out) hb); have n1_ := Aside0.mk (Kd.R_below (by (with_reducible repeat (first | apply Kd.R_alloc | apply Kd.R_drewN | apply Kd.R_drew)); exact HO274.out) hb); have n2_ := Aside0.mk (blk_below (g := gb266) (o := .cells #[.int .i64 a1_0, .int .i64 a1_1] 45 (0, 0)) bk_ hb); have n3_ := Aside0.mk (blk_below (g := gb267) (o := .cells #[.int .i64 a2_0, .int .i64 a2_1] 45 (0, 0)) bk_ hb); have n4_ := Aside0.mk (below_step bw_ hb); clear HO270; clear HO274; clear BK266; clear BK267; clear HB; have HO270 := n0_; have HO274 := n1_; have BK266 := n2_; have BK267 := n3_; have HB := n4_; clear n0_ n1_ n2_ n3_ n4_; (try clear hb); (try clear hb2); (try clear hk); (try clear hi); have hcz39_0 : w38.cell? ⟨gb266, 0, none⟩ = some (.int .i64 a1_0) := (blk_cell BK266.out 0).trans rfl; have hcz39_1 : w38.cell? ⟨gb266, 1, none⟩ = some (.int .i64 a1_1) := (blk_cell BK266.out 1).trans rfl; have hfz39_0 := blk_frozen BK266.out 0; have hfz39_1 := blk_frozen BK266.out 1; have hcz40_0 : w38.cell? ⟨gb267, 0, none⟩ = some (.int .i64 a2_0) := (blk_cell BK267.out 0).trans rfl; have hcz40_1 : w38.cell? ⟨gb267, 1, none⟩ = some (.int .i64 a2_1) := (blk_cell BK267.out 1).trans rfl; have hfz40_0 := blk_frozen BK267.out 0; have hfz40_1 := blk_frozen BK267.out 1) | ((with_reducible refine gate_callee (f := 27) rfl ?_); refine goesL_ (some 126) rfl rfl Try.func27 (by kernel_rfl) rfl #[.int .i64 a0, .agg #[.int .i64 a1_0, .int .i64 a1_1], .agg #[.int .i64 a2_0, .int .i64 a2_1]] rfl (by (try simp only [List.map_toArray, List.map_cons, List.map_nil]); first | done | rfl | (simp only [List.length_drop, List.length_take]; rfl)) ?_; (with_reducible refine (spec_FirstMeet.calls k a0 a1_0 a1_1 a2_0 a2_1 t283 t284 t285 _ A15.out).mono ?_); rintro e w41 ⟨rfl, hb⟩; refine ⟨_, rfl, ?_⟩; have n0_ := Aside0.mk (Kd.R_below (by (with_reducible repeat (first | apply Kd.R_alloc | apply Kd.R_drewN | apply Kd.R_drew)); exact HO270.out) hb); have n1_ := Aside0.mk (Kd.R_below (by (with_reducible repeat (first | apply Kd.R_alloc | apply Kd.R_drewN | apply Kd.R_drew)); exact HO274.out) hb); have n2_ := Aside0.mk (blk_below (g := gb266) (o := .cells #[.int .i64 a1_0, .int .i64 a1_1] 45 (0, 0)) bk_ hb); have n3_ := Aside0.mk (blk_below (g := gb267) (o := .cells #[.int .i64 a2_0, .int .i64 a2_1] 45 (0, 0)) bk_ hb); have n4_ := Aside0.mk (below_step bw_ hb); clear HO270; clear HO274; clear BK266; clear BK267; clear HB; have HO270 := n0_; have HO274 := n1_; have BK266 := n2_; have BK267 := n3_; have HB := n4_; clear n0_ n1_ n2_ n3_ n4_; (try clear hb); (try clear hb2); (try clear hk); (try clear hi); have hcz42_0 : w41.cell? ⟨gb266, 0, none⟩ = some (.int .i64 a1_0) := (blk_cell BK266.out 0).trans rfl; have hcz42_1 : w41.cell? ⟨gb266, 1, none⟩ = some (.int .i64 a1_1) := (blk_cell BK266.out 1).trans rfl; have hfz42_0 := blk_frozen BK266.out 0; have hfz42_1 := blk_frozen BK266.out 1; have hcz43_0 : w41.cell? ⟨gb267, 0, none⟩ = some (.int .i64 a2_0) := (blk_cell BK267.out 0).trans rfl; have hcz43_1 : w41.cell? ⟨gb267, 1, none⟩ = some (.int .i64 a2_1) := (blk_cell BK267.out 1).trans rfl; have hfz43_0 := blk_frozen BK267.out 0; have hfz43_1 := blk_frozen BK267.out 1) | ((with_reducible refine gate_callee (f := 28) rfl ?_); refine goesL_ (some 134) rfl rfl Try.func28 (by kernel_rfl) rfl #[.int .i64 a0, .agg #[.int .i64 a1_0, .int .i64 a1_1], .agg #[.int .i64 a2_0, .int .i64 a2_1]] rfl (by (try simp only [List.map_toArray, List.map_cons, List.map_nil]); first | done | rfl | (simp only [List.length_drop, List.length_take]; rfl)) ?_; (with_reducible refine (impl_MeetingPlaces.calls k a0 a1_0 a1_1 a2_0 a2_1 t286 t289 _ A16.out).mono ?_); rintro e w44 ⟨v287, rfl, ho0, hb⟩; refine ⟨_, rfl, ?_⟩; have n0_ := Aside0.mk (Kd.R_elder' (by (with_reducible repeat (first | apply Kd.R_alloc | apply Kd.R_drewN | apply Kd.R_drew)); exact HO270.out) (Kd.R_base ho0) hb); have n1_ := Aside0.mk (Kd.R_elder' (by (with_reducible repeat (first | apply Kd.R_alloc | apply Kd.R_drewN | apply Kd.R_drew)); exact HO274.out) (Kd.R_base ho0) hb); have n2_ := Aside0.mk (Kd.R_lower (Kd.R_new' (Kd.R_new' ho0 (Kd.R_lt (by (with_reducible repeat (first | apply Kd.R_alloc | apply Kd.R_drewN | apply Kd.R_drew)); exact HO270.out))) (Kd.R_lt (by (with_reducible repeat (first | apply Kd.R_alloc | apply Kd.R_drewN | apply Kd.R_drew)); exact HO274.out))) (below_size bw_)); have n3_ := Aside0.mk (blk_below (g := gb266) (o := .cells #[.int .i64 a1_0, .int .i64 a1_1] 45 (0, 0)) bk_ hb); have n4_ := Aside0.mk (blk_below (g := gb267) (o := .cells #[.int .i64 a2_0, .int .i64 a2_1] 45 (0, 0)) bk_ hb); have n5_ := Aside0.mk (below_step bw_ hb); clear HO270; clear HO274; clear BK266; clear BK267; clear HB; have HO270 := n0_; have HO274 := n1_; have HO288 := n2_; have BK266 := n3_; have BK267 := n4_; have HB := n5_; clear n0_ n1_ n2_ n3_ n4_ n5_; (try clear hb); (try clear hb2); (try clear hk); (try clear hi); (try clear ho0); have hcz45_0 : w44.cell? ⟨gb266, 0, none⟩ = some (.int .i64 a1_0) := (blk_cell BK266.out 0).trans rfl; have hcz45_1 : w44.cell? ⟨gb266, 1, none⟩ = some (.int .i64 a1_1) := (blk_cell BK266.out 1).trans rfl; have hfz45_0 := blk_frozen BK266.out 0; have hfz45_1 := blk_frozen BK266.out 1; have hcz46_0 : w44.cell? ⟨gb267, 0, none⟩ = some (.int .i64 a2_0) := (blk_cell BK267.out 0).trans rfl; have hcz46_1 : w44.cell? ⟨gb267, 1, none⟩ = some (.int .i64 a2_1) := (blk_cell BK267.out 1).trans rfl; have hfz46_0 := blk_frozen BK267.out 0; have hfz46_1 := blk_frozen BK267.out 1) | ((with_reducible refine gate_callee (f := 29) rfl ?_); refine goesL_ (some 141) rfl rfl Try.func29 (by kernel_rfl) rfl #[.int .i64 a0, .agg #[.int .i64 a1_0, .int .i64 a1_1], .agg #[.int .i64 a2_0, .int .i64 a2_1]] rfl (by (try simp only [List.map_toArray, List.map_cons, List.map_nil]); first | done | rfl | (simp only [List.length_drop, List.length_take]; rfl)) ?_; (with_reducible refine (spec_MeetingPlaces.calls k a0 a1_0 a1_1 a2_0 a2_1 t290 t293 _ A17.out).mono ?_); rintro e w47 ⟨v291, rfl, ho0, hb⟩; refine ⟨_, rfl, ?_⟩; have n0_ := Aside0.mk (Kd.R_elder' (by (with_reducible repeat (first | apply Kd.R_alloc | apply Kd.R_drewN | apply Kd.R_drew)); exact HO270.out) (Kd.R_base ho0) hb); have n1_ := Aside0.mk (Kd.R_elder' (by (with_reducible repeat (first | apply Kd.R_alloc | apply Kd.R_drewN | apply Kd.R_drew)); exact HO274.out) (Kd.R_base ho0) hb); have n2_ := Aside0.mk (Kd.R_elder' (by (with_reducible repeat (first | apply Kd.R_alloc | apply Kd.R_drewN | apply Kd.R_drew)); exact HO288.out) (Kd.R_base ho0) hb); have n3_ := Aside0.mk (Kd.R_lower (Kd.R_new' (Kd.R_new' (Kd.R_new' ho0 (Kd.R_lt (by (with_reducible repeat (first | apply Kd.R_alloc | apply Kd.R_drewN | apply Kd.R_drew)); exact HO270.out))) (Kd.R_lt (by (with_reducible repeat (first | apply Kd.R_alloc | apply Kd.R_drewN | apply Kd.R_drew)); exact HO274.out))) (Kd.R_lt (by (with_reducible repeat (first | apply Kd.R_alloc | apply Kd.R_drewN | apply Kd.R_drew)); exact HO288.out))) (below_size bw_)); have n4_ := Aside0.mk (blk_below (g := gb266) (o := .cells #[.int .i64 a1_0, .int .i64 a1_1] 45 (0, 0)) bk_ hb); have n5_ := Aside0.mk (blk_below (g := gb267) (o := .cells #[.int .i64 a2_0, .int .i64 a2_1] 45 (0, 0)) bk_ hb); have n6_ := Aside0.mk (below_step bw_ hb); clear HO270; clear HO274; clear HO288; clear BK266; clear BK267; clear HB; have HO270 := n0_; have HO274 := n1_; have HO288 := n2_; have HO292 := n3_; have BK266 := n4_; have BK267 := n5_; have HB := n6_; clear n0_ n1_ n2_ n3_ n4_ n5_ n6_; (try clear hb); (try clear hb2); (try clear hk); (try clear hi); (try clear ho0); have hcz48_0 : w47.cell? ⟨gb266, 0, none⟩ = some (.int .i64 a1_0) := (blk_cell BK266.out 0).trans rfl; have hcz48_1 : w47.cell? ⟨gb266, 1, none⟩ = some (.int .i64 a1_1) := (blk_cell BK266.out 1).trans rfl; have hfz48_0 := blk_frozen BK266.out 0; have hfz48_1 := blk_frozen BK266.out 1; have hcz49_0 : w47.cell? ⟨gb267, 0, none⟩ = some (.int .i64 a2_0) := (blk_cell BK267.out 0).trans rfl; have hcz49_1 : w47.cell? ⟨gb267, 1, none⟩ = some (.int .i64 a2_1) := (blk_cell BK267.out 1).trans rfl; have hfz49_0 := blk_frozen BK267.out 0; have hfz49_1 := blk_frozen BK267.out 1) | ((with_reducible refine gate_callee (f := 30) rfl ?_); refine goesL_ (some 149) rfl rfl Try.func30 (by kernel_rfl) rfl #[.int .i64 a0, .agg #[.int .i64 a1_0, .int .i64 a1_1], .agg #[.int .i64 a2_0, .int .i64 a2_1], .int .i64 a3] rfl (by (try simp only [List.map_toArray, List.map_cons, List.map_nil]); first | done | rfl | (simp only [List.length_drop, List.length_take]; rfl)) ?_; (with_reducible refine (impl_LeadBetween.calls k a0 a1_0 a1_1 a2_0 a2_1 a3 t294 t295 _ A18.out).mono ?_); rintro e w50 ⟨rfl, hb⟩; refine ⟨_, rfl, ?_⟩; have n0_ := Aside0.mk (Kd.R_below (by (with_reducible repeat (first | apply Kd.R_alloc | apply Kd.R_drewN | apply Kd.R_drew)); exact HO270.out) hb); have n1_ := Aside0.mk (Kd.R_below (by (with_reducible repeat (first | apply Kd.R_alloc | apply Kd.R_drewN | apply Kd.R_drew)); exact HO274.out) hb); have n2_ := Aside0.mk (Kd.R_below (by (with_reducible repeat (first | apply Kd.R_alloc | apply Kd.R_drewN | apply Kd.R_drew)); exact HO288.out) hb); have n3_ := Aside0.mk (Kd.R_below (by (with_reducible repeat (first | apply Kd.R_alloc | apply Kd.R_drewN | apply Kd.R_drew)); exact HO292.out) hb); have n4_ := Aside0.mk (blk_below (g := gb266) (o := .cells #[.int .i64 a1_0, .int .i64 a1_1] 45 (0, 0)) bk_ hb); have n5_ := Aside0.mk (blk_below (g := gb267) (o := .cells #[.int .i64 a2_0, .int .i64 a2_1] 45 (0, 0)) bk_ hb); have n6_ := Aside0.mk (below_step bw_ hb); clear HO270; clear HO274; clear HO288; clear HO292; clear BK266; clear BK267; clear HB; have HO270 := n0_; have HO274 := n1_; have HO288 := n2_; have HO292 := n3_; have BK266 := n4_; have BK267 := n5_; have HB := n6_; clear n0_ n1_ n2_ n3_ n4_ n5_ n6_; (try clear hb); (try clear hb2); (try clear hk); (try clear hi); have hcz51_0 : w50.cell? ⟨gb266, 0, none⟩ = some (.int .i64 a1_0) := (blk_cell BK266.out 0).trans rfl; have hcz51_1 : w50.cell? ⟨gb266, 1, none⟩ = some (.int .i64 a1_1) := (blk_cell BK266.out 1).trans rfl; have hfz51_0 := blk_frozen BK266.out 0; have hfz51_1 := blk_frozen BK266.out 1; have hcz52_0 : w50.cell? ⟨gb267, 0, none⟩ = some (.int .i64 a2_0) := (blk_cell BK267.out 0).trans rfl; have hcz52_1 : w50.cell? ⟨gb267, 1, none⟩ = some (.int .i64 a2_1) := (blk_cell BK267.out 1).trans rfl; have hfz52_0 := blk_frozen BK267.out 0; have hfz52_1 := blk_frozen BK267.out 1) | ((with_reducible refine gate_callee (f := 31) rfl ?_); refine goesL_ (some 157) rfl rfl Try.func31 (by kernel_rfl) rfl #[.int .i64 a0, .agg #[.int .i64 a1_0, .int .i64 a1_1], .agg #[.int .i64 a2_0, .int .i64 a2_1], .int .i64 a3] rfl (by (try simp only [List.map_toArray, List.map_cons, List.map_nil]); first | done | rfl | (simp only [List.length_drop, List.length_take]; rfl)) ?_; (with_reducible refine (spec_LeadBetween.calls k a0 a1_0 a1_1 a2_0 a2_1 a3 t296 t297 _ A19.out).mono ?_); rintro e w53 ⟨rfl, hb⟩; refine ⟨_, rfl, ?_⟩; have n0_ := Aside0.mk (Kd.R_below (by (with_reducible repeat (first | apply Kd.R_alloc | apply Kd.R_drewN | apply Kd.R_drew)); exact HO270.out) hb); have n1_ := Aside0.mk (Kd.R_below (by (with_reducible repeat (first | apply Kd.R_alloc | apply Kd.R_drewN | apply Kd.R_drew)); exact HO274.out) hb); have n2_ := Aside0.mk (Kd.R_below (by (with_reducible repeat (first | apply Kd.R_alloc | apply Kd.R_drewN | apply Kd.R_drew)); exact HO288.out) hb); have n3_ := Aside0.mk (Kd.R_below (by (with_reducible repeat (first | apply Kd.R_alloc | apply Kd.R_drewN | apply Kd.R_drew)); exact HO292.out) hb); have n4_ := Aside0.mk (blk_below (g := gb266) (o := .cells #[.int .i64 a1_0, .int .i64 a1_1] 45 (0, 0)) bk_ hb); have n5_ := Aside0.mk (blk_below (g := gb267) (o := .cells #[.int .i64 a2_0, .int .i64 a2_1] 45 (0, 0)) bk_ hb); have n6_ := Aside0.mk (below_step bw_ hb); clear HO270; clear HO274; clear HO288; clear HO292; clear BK266; clear BK267; clear HB; have HO270 := n0_; have HO274 := n1_; have HO288 := n2_; have HO292 := n3_; have BK266 := n4_; have BK267 := n5_; have HB := n6_; clear n0_ n1_ n2_ n3_ n4_ n5_ n6_; (try clear hb); (try clear hb2); (try clear hk); (try clear hi)))
  (try simp only [Act.put, List.setIfInBounds_toArray, List.set_cons_zero, List.set_cons_succ])
  go_cut [233] from 160 to 233 (fun v233 wc => ∃ (kq : Nat) (x233_19 : Bool), v233 = .bool x233_19 ∧ Aside0 (laws_FnRunnersMeetOfAll.j0 kq a0 a3 a4 l5 t268 t271 t276 t280 t281 t282 t286 t289 t294 t295 x233_19 a1_0 a1_1 a2_0 a2_1 = some r) ∧ Aside0 (kq ≤ k) ∧ Aside0 (Kd.R (Kd.int .i64) 3 wc w.heap.size (fun k_ => some k_ ≠ (v287 : Value).ownBlock) v269 t268) ∧ Aside0 (Kd.R (Kd.int .i64) 3 wc w.heap.size (fun k_ => some k_ ≠ (v269 : Value).ownBlock) v287 t286) ∧ Aside0 (wc.heap[gb266]? = some (.cells #[.int .i64 a1_0, .int .i64 a1_1] 45 (0, 0))) ∧ Aside0 (wc.heap[gb267]? = some (.cells #[.int .i64 a2_0, .int .i64 a2_1] 45 (0, 0))) ∧ Aside0 (Below w.heap.size w wc))
  case first => as_aux_lemma =>
   have H := HC20.out
   clear HC20
   by_cases c54 : (t271 != t275) = true
   ·
    rw [if_pos c54] at H
    have c54b0 : (t271 != t275) = true := c54
    (try (have c54b1 : decide (t271 = t275) = false := by simpa using c54))
    (try (have c54b2 : (t271 == t275) = false := by simpa using c54))
    (try (have c54b3 : ¬ (t271 = t275) := by simpa using c54))
    clear c54
    (first | rw [c54b0] | (simp only [i64_w, i32_w]; rw [c54b0]) | skip)
    exact absurd (H.trans (congrArg some HRT.out)) (by cases k <;> simp [laws_FnRunnersMeetOfAll.j0])
   ·
    rw [if_neg c54] at H
    have c54b0 : (t271 != t275) = false := by simpa using c54
    (try (have c54b1 : decide (t271 = t275) = true := by simpa using c54))
    (try (have c54b2 : (t271 == t275) = true := by simpa using c54))
    clear c54
    (first | rw [c54b0] | (simp only [i64_w, i32_w]; rw [c54b0]) | skip)
    replace H := Option.bind_eq_some_iff.mp H
    obtain ⟨t298, A550, H⟩ := H
    (try dsimp only at H)
    have A55 := Aside0.mk A550
    clear A550
    by_cases c56 : t298 = true
    ·
     subst c56
     rw [if_pos rfl] at H
     by_cases c57 : (t277 != t279) = true
     ·
      rw [if_pos c57] at H
      have c57b0 : (t277 != t279) = true := c57
      (try (have c57b1 : decide (t277 = t279) = false := by simpa using c57))
      (try (have c57b2 : (t277 == t279) = false := by simpa using c57))
      (try (have c57b3 : ¬ (t277 = t279) := by simpa using c57))
      clear c57
      exact absurd (H.trans (congrArg some HRT.out)) (by cases k <;> simp [laws_FnRunnersMeetOfAll.j0])
     ·
      rw [if_neg c57] at H
      have c57b0 : (t277 != t279) = false := by simpa using c57
      (try (have c57b1 : decide (t277 = t279) = true := by simpa using c57))
      (try (have c57b2 : (t277 == t279) = true := by simpa using c57))
      clear c57
      by_cases c58 : t276 = t278
      ·
       rw [if_pos c58] at H
       have c58b0 : (t276 == t278) = true := beq_iff_eq.mpr c58
       have c58b1 : (t276 != t278) = false := bne_eq_false_iff_eq.mpr c58
       clear c58
       by_cases c59 : (t282 != t285) = true
       ·
        rw [if_pos c59] at H
        have c59b0 : (t282 != t285) = true := c59
        (try (have c59b1 : decide (t282 = t285) = false := by simpa using c59))
        (try (have c59b2 : (t282 == t285) = false := by simpa using c59))
        (try (have c59b3 : ¬ (t282 = t285) := by simpa using c59))
        clear c59
        exact absurd (H.trans (congrArg some HRT.out)) (by cases k <;> simp [laws_FnRunnersMeetOfAll.j0])
       ·
        rw [if_neg c59] at H
        have c59b0 : (t282 != t285) = false := by simpa using c59
        (try (have c59b1 : decide (t282 = t285) = true := by simpa using c59))
        (try (have c59b2 : (t282 == t285) = true := by simpa using c59))
        clear c59
        by_cases c60 : t280 = t283
        ·
         rw [if_pos c60] at H
         have c60b0 : (t280 == t283) = true := beq_iff_eq.mpr c60
         have c60b1 : (t280 != t283) = false := bne_eq_false_iff_eq.mpr c60
         clear c60
         by_cases c61 : t281 = t284
         ·
          rw [if_pos c61] at H
          have c61b0 : (t281 == t284) = true := beq_iff_eq.mpr c61
          have c61b1 : (t281 != t284) = false := bne_eq_false_iff_eq.mpr c61
          clear c61
          by_cases c62 : (t289 != t293) = true
          ·
           rw [if_pos c62] at H
           have c62b0 : (t289 != t293) = true := c62
           (try (have c62b1 : decide (t289 = t293) = false := by simpa using c62))
           (try (have c62b2 : (t289 == t293) = false := by simpa using c62))
           (try (have c62b3 : ¬ (t289 = t293) := by simpa using c62))
           clear c62
           exact absurd (H.trans (congrArg some HRT.out)) (by cases k <;> simp [laws_FnRunnersMeetOfAll.j0])
          ·
           rw [if_neg c62] at H
           have c62b0 : (t289 != t293) = false := by simpa using c62
           (try (have c62b1 : decide (t289 = t293) = true := by simpa using c62))
           (try (have c62b2 : (t289 == t293) = true := by simpa using c62))
           clear c62
           replace H := Option.bind_eq_some_iff.mp H
           obtain ⟨t299, A630, H⟩ := H
           (try dsimp only at H)
           have A63 := Aside0.mk A630
           clear A630
           by_cases c64 : t299 = true
           ·
            subst c64
            rw [if_pos rfl] at H
            by_cases c65 : (t295 != t297) = true
            ·
             rw [if_pos c65] at H
             have c65b0 : (t295 != t297) = true := c65
             (try (have c65b1 : decide (t295 = t297) = false := by simpa using c65))
             (try (have c65b2 : (t295 == t297) = false := by simpa using c65))
             (try (have c65b3 : ¬ (t295 = t297) := by simpa using c65))
             clear c65
             exact absurd (H.trans (congrArg some HRT.out)) (by cases k <;> simp [laws_FnRunnersMeetOfAll.j0])
            ·
             rw [if_neg c65] at H
             have c65b0 : (t295 != t297) = false := by simpa using c65
             (try (have c65b1 : decide (t295 = t297) = true := by simpa using c65))
             (try (have c65b2 : (t295 == t297) = true := by simpa using c65))
             clear c65
             by_cases c66 : t294 = t296
             ·
              rw [if_pos c66] at H
              have c66b0 : (t294 == t296) = true := beq_iff_eq.mpr c66
              have c66b1 : (t294 != t296) = false := bne_eq_false_iff_eq.mpr c66
              clear c66
              by_cases c67 : (t277 != t295) = true
              ·
               rw [if_pos c67] at H
               have c67b0 : (t277 != t295) = true := c67
               (try (have c67b1 : decide (t277 = t295) = false := by simpa using c67))
               (try (have c67b2 : (t277 == t295) = false := by simpa using c67))
               (try (have c67b3 : ¬ (t277 = t295) := by simpa using c67))
               clear c67
               exact absurd (H.trans (congrArg some HRT.out)) (by cases k <;> simp [laws_FnRunnersMeetOfAll.j0])
              ·
               rw [if_neg c67] at H
               have c67b0 : (t277 != t295) = false := by simpa using c67
               (try (have c67b1 : decide (t277 = t295) = true := by simpa using c67))
               (try (have c67b2 : (t277 == t295) = true := by simpa using c67))
               clear c67
               by_cases c68 : t271 = true
               ·
                subst c68
                rw [if_pos rfl] at H
                by_cases c69 : t277 = true
                ·
                 subst c69
                 rw [if_pos rfl] at H
                 by_cases c70 : t282 = true
                 ·
                  subst c70
                  rw [if_pos rfl] at H
                  have H' := Aside0.mk H
                  clear H
                  obtain ⟨Ao71, co71, eo71⟩ := Kd.R_slice HO270.out
                  subst eo71
                  obtain ⟨Ao72, co72, eo72⟩ := Kd.R_slice HO274.out
                  subst eo72
                  go_wp2_with (first | (go_at_call 32; (with_reducible refine (laws_qSame.calls k _ _ t268 _ _ t272 true _ ?side1 ?side2 ?side3 ?side4 A55.out).mono ?_); (case side1 => repeat (first | exact (Kd.R_reads' HO270.out).2.2 | (with_reducible refine Kd.C_alloc ?_ _) | (with_reducible refine Kd.C_drewN ?_ _) | (with_reducible refine Kd.C_drew ?_))); (case side2 => exact (Kd.R_reads' HO270.out).2.1); (case side3 => repeat (first | exact (Kd.R_reads' HO274.out).2.2 | (with_reducible refine Kd.C_alloc ?_ _) | (with_reducible refine Kd.C_drewN ?_ _) | (with_reducible refine Kd.C_drew ?_))); (case side4 => exact (Kd.R_reads' HO274.out).2.1); rintro e w' ⟨rfl, ⟨nd, rfl⟩⟩; obtain ⟨Ao73, co73, eo73⟩ := Kd.R_slice HO288.out; subst eo73; obtain ⟨Ao74, co74, eo74⟩ := Kd.R_slice HO292.out; subst eo74) | (go_at_call 32; (with_reducible refine (laws_qSame.calls k _ _ t286 _ _ t290 true _ ?side1 ?side2 ?side3 ?side4 A63.out).mono ?_); (case side1 => repeat (first | exact (Kd.R_reads' HO288.out).2.2 | (with_reducible refine Kd.C_alloc ?_ _) | (with_reducible refine Kd.C_drewN ?_ _) | (with_reducible refine Kd.C_drew ?_))); (case side2 => exact (Kd.R_reads' HO288.out).2.1); (case side3 => repeat (first | exact (Kd.R_reads' HO292.out).2.2 | (with_reducible refine Kd.C_alloc ?_ _) | (with_reducible refine Kd.C_drewN ?_ _) | (with_reducible refine Kd.C_drew ?_))); (case side4 => exact (Kd.R_reads' HO292.out).2.1); rintro e w' ⟨rfl, ⟨nd, rfl⟩⟩))
                  go_meet
                  case rel => exact ⟨_, (!t289), (by first | rfl | (simp; done) | (simp [*]; done)), H', ⟨by first | omega | exact Nat.le_refl _⟩, ⟨by (with_reducible repeat (first | apply Kd.R_alloc | apply Kd.R_drewN | apply Kd.R_drew)); exact Kd.R_mono HO270.out (fun _ hk => hk.1.2)⟩, ⟨by (with_reducible repeat (first | apply Kd.R_alloc | apply Kd.R_drewN | apply Kd.R_drew)); exact Kd.R_mono HO288.out (fun _ hk => hk.1.1.2)⟩, ⟨by (with_reducible repeat (first | refine blk_drewN ?_ _ | refine blk_drew ?_ | refine blk_alloc ?_ _)); exact BK266.out⟩, ⟨by (with_reducible repeat (first | refine blk_drewN ?_ _ | refine blk_drew ?_ | refine blk_alloc ?_ _)); exact BK267.out⟩, ⟨bw_⟩⟩
                 ·
                  replace c70 := Bool.eq_false_iff.mpr c70
                  subst c70
                  rw [if_neg (show ¬ (false = true) by decide)] at H
                  have H' := Aside0.mk H
                  clear H
                  obtain ⟨Ao75, co75, eo75⟩ := Kd.R_slice HO270.out
                  subst eo75
                  obtain ⟨Ao76, co76, eo76⟩ := Kd.R_slice HO274.out
                  subst eo76
                  go_wp2_with (first | (go_at_call 32; (with_reducible refine (laws_qSame.calls k _ _ t268 _ _ t272 true _ ?side1 ?side2 ?side3 ?side4 A55.out).mono ?_); (case side1 => repeat (first | exact (Kd.R_reads' HO270.out).2.2 | (with_reducible refine Kd.C_alloc ?_ _) | (with_reducible refine Kd.C_drewN ?_ _) | (with_reducible refine Kd.C_drew ?_))); (case side2 => exact (Kd.R_reads' HO270.out).2.1); (case side3 => repeat (first | exact (Kd.R_reads' HO274.out).2.2 | (with_reducible refine Kd.C_alloc ?_ _) | (with_reducible refine Kd.C_drewN ?_ _) | (with_reducible refine Kd.C_drew ?_))); (case side4 => exact (Kd.R_reads' HO274.out).2.1); rintro e w' ⟨rfl, ⟨nd, rfl⟩⟩; obtain ⟨Ao77, co77, eo77⟩ := Kd.R_slice HO288.out; subst eo77; obtain ⟨Ao78, co78, eo78⟩ := Kd.R_slice HO292.out; subst eo78) | (go_at_call 32; (with_reducible refine (laws_qSame.calls k _ _ t286 _ _ t290 true _ ?side1 ?side2 ?side3 ?side4 A63.out).mono ?_); (case side1 => repeat (first | exact (Kd.R_reads' HO288.out).2.2 | (with_reducible refine Kd.C_alloc ?_ _) | (with_reducible refine Kd.C_drewN ?_ _) | (with_reducible refine Kd.C_drew ?_))); (case side2 => exact (Kd.R_reads' HO288.out).2.1); (case side3 => repeat (first | exact (Kd.R_reads' HO292.out).2.2 | (with_reducible refine Kd.C_alloc ?_ _) | (with_reducible refine Kd.C_drewN ?_ _) | (with_reducible refine Kd.C_drew ?_))); (case side4 => exact (Kd.R_reads' HO292.out).2.1); rintro e w' ⟨rfl, ⟨nd, rfl⟩⟩))
                  go_meet
                  case rel => exact ⟨_, (false), (by first | rfl | (simp; done) | (simp [*]; done)), H', ⟨by first | omega | exact Nat.le_refl _⟩, ⟨by (with_reducible repeat (first | apply Kd.R_alloc | apply Kd.R_drewN | apply Kd.R_drew)); exact Kd.R_mono HO270.out (fun _ hk => hk.1.2)⟩, ⟨by (with_reducible repeat (first | apply Kd.R_alloc | apply Kd.R_drewN | apply Kd.R_drew)); exact Kd.R_mono HO288.out (fun _ hk => hk.1.1.2)⟩, ⟨by (with_reducible repeat (first | refine blk_drewN ?_ _ | refine blk_drew ?_ | refine blk_alloc ?_ _)); exact BK266.out⟩, ⟨by (with_reducible repeat (first | refine blk_drewN ?_ _ | refine blk_drew ?_ | refine blk_alloc ?_ _)); exact BK267.out⟩, ⟨bw_⟩⟩
                ·
                 replace c69 := Bool.eq_false_iff.mpr c69
                 subst c69
                 rw [if_neg (show ¬ (false = true) by decide)] at H
                 exact absurd (H.trans (congrArg some HRT.out)) (by cases k <;> simp [laws_FnRunnersMeetOfAll.j0])
               ·
                replace c68 := Bool.eq_false_iff.mpr c68
                subst c68
                rw [if_neg (show ¬ (false = true) by decide)] at H
                by_cases c79 : t282 = true
                ·
                 subst c79
                 rw [if_pos rfl] at H
                 have H' := Aside0.mk H
                 clear H
                 obtain ⟨Ao80, co80, eo80⟩ := Kd.R_slice HO270.out
                 subst eo80
                 obtain ⟨Ao81, co81, eo81⟩ := Kd.R_slice HO274.out
                 subst eo81
                 go_wp2_with (first | (go_at_call 32; (with_reducible refine (laws_qSame.calls k _ _ t268 _ _ t272 true _ ?side1 ?side2 ?side3 ?side4 A55.out).mono ?_); (case side1 => repeat (first | exact (Kd.R_reads' HO270.out).2.2 | (with_reducible refine Kd.C_alloc ?_ _) | (with_reducible refine Kd.C_drewN ?_ _) | (with_reducible refine Kd.C_drew ?_))); (case side2 => exact (Kd.R_reads' HO270.out).2.1); (case side3 => repeat (first | exact (Kd.R_reads' HO274.out).2.2 | (with_reducible refine Kd.C_alloc ?_ _) | (with_reducible refine Kd.C_drewN ?_ _) | (with_reducible refine Kd.C_drew ?_))); (case side4 => exact (Kd.R_reads' HO274.out).2.1); rintro e w' ⟨rfl, ⟨nd, rfl⟩⟩; obtain ⟨Ao82, co82, eo82⟩ := Kd.R_slice HO288.out; subst eo82; obtain ⟨Ao83, co83, eo83⟩ := Kd.R_slice HO292.out; subst eo83) | (go_at_call 32; (with_reducible refine (laws_qSame.calls k _ _ t286 _ _ t290 true _ ?side1 ?side2 ?side3 ?side4 A63.out).mono ?_); (case side1 => repeat (first | exact (Kd.R_reads' HO288.out).2.2 | (with_reducible refine Kd.C_alloc ?_ _) | (with_reducible refine Kd.C_drewN ?_ _) | (with_reducible refine Kd.C_drew ?_))); (case side2 => exact (Kd.R_reads' HO288.out).2.1); (case side3 => repeat (first | exact (Kd.R_reads' HO292.out).2.2 | (with_reducible refine Kd.C_alloc ?_ _) | (with_reducible refine Kd.C_drewN ?_ _) | (with_reducible refine Kd.C_drew ?_))); (case side4 => exact (Kd.R_reads' HO292.out).2.1); rintro e w' ⟨rfl, ⟨nd, rfl⟩⟩))
                 go_meet
                 case rel => exact ⟨_, (!t289), (by first | rfl | (simp; done) | (simp [*]; done)), H', ⟨by first | omega | exact Nat.le_refl _⟩, ⟨by (with_reducible repeat (first | apply Kd.R_alloc | apply Kd.R_drewN | apply Kd.R_drew)); exact Kd.R_mono HO270.out (fun _ hk => hk.1.2)⟩, ⟨by (with_reducible repeat (first | apply Kd.R_alloc | apply Kd.R_drewN | apply Kd.R_drew)); exact Kd.R_mono HO288.out (fun _ hk => hk.1.1.2)⟩, ⟨by (with_reducible repeat (first | refine blk_drewN ?_ _ | refine blk_drew ?_ | refine blk_alloc ?_ _)); exact BK266.out⟩, ⟨by (with_reducible repeat (first | refine blk_drewN ?_ _ | refine blk_drew ?_ | refine blk_alloc ?_ _)); exact BK267.out⟩, ⟨bw_⟩⟩
                ·
                 replace c79 := Bool.eq_false_iff.mpr c79
                 subst c79
                 rw [if_neg (show ¬ (false = true) by decide)] at H
                 have H' := Aside0.mk H
                 clear H
                 obtain ⟨Ao84, co84, eo84⟩ := Kd.R_slice HO270.out
                 subst eo84
                 obtain ⟨Ao85, co85, eo85⟩ := Kd.R_slice HO274.out
                 subst eo85
                 go_wp2_with (first | (go_at_call 32; (with_reducible refine (laws_qSame.calls k _ _ t268 _ _ t272 true _ ?side1 ?side2 ?side3 ?side4 A55.out).mono ?_); (case side1 => repeat (first | exact (Kd.R_reads' HO270.out).2.2 | (with_reducible refine Kd.C_alloc ?_ _) | (with_reducible refine Kd.C_drewN ?_ _) | (with_reducible refine Kd.C_drew ?_))); (case side2 => exact (Kd.R_reads' HO270.out).2.1); (case side3 => repeat (first | exact (Kd.R_reads' HO274.out).2.2 | (with_reducible refine Kd.C_alloc ?_ _) | (with_reducible refine Kd.C_drewN ?_ _) | (with_reducible refine Kd.C_drew ?_))); (case side4 => exact (Kd.R_reads' HO274.out).2.1); rintro e w' ⟨rfl, ⟨nd, rfl⟩⟩; obtain ⟨Ao86, co86, eo86⟩ := Kd.R_slice HO288.out; subst eo86; obtain ⟨Ao87, co87, eo87⟩ := Kd.R_slice HO292.out; subst eo87) | (go_at_call 32; (with_reducible refine (laws_qSame.calls k _ _ t286 _ _ t290 true _ ?side1 ?side2 ?side3 ?side4 A63.out).mono ?_); (case side1 => repeat (first | exact (Kd.R_reads' HO288.out).2.2 | (with_reducible refine Kd.C_alloc ?_ _) | (with_reducible refine Kd.C_drewN ?_ _) | (with_reducible refine Kd.C_drew ?_))); (case side2 => exact (Kd.R_reads' HO288.out).2.1); (case side3 => repeat (first | exact (Kd.R_reads' HO292.out).2.2 | (with_reducible refine Kd.C_alloc ?_ _) | (with_reducible refine Kd.C_drewN ?_ _) | (with_reducible refine Kd.C_drew ?_))); (case side4 => exact (Kd.R_reads' HO292.out).2.1); rintro e w' ⟨rfl, ⟨nd, rfl⟩⟩))
                 go_meet
                 case rel => exact ⟨_, (false), (by first | rfl | (simp; done) | (simp [*]; done)), H', ⟨by first | omega | exact Nat.le_refl _⟩, ⟨by (with_reducible repeat (first | apply Kd.R_alloc | apply Kd.R_drewN | apply Kd.R_drew)); exact Kd.R_mono HO270.out (fun _ hk => hk.1.2)⟩, ⟨by (with_reducible repeat (first | apply Kd.R_alloc | apply Kd.R_drewN | apply Kd.R_drew)); exact Kd.R_mono HO288.out (fun _ hk => hk.1.1.2)⟩, ⟨by (with_reducible repeat (first | refine blk_drewN ?_ _ | refine blk_drew ?_ | refine blk_alloc ?_ _)); exact BK266.out⟩, ⟨by (with_reducible repeat (first | refine blk_drewN ?_ _ | refine blk_drew ?_ | refine blk_alloc ?_ _)); exact BK267.out⟩, ⟨bw_⟩⟩
             ·
              rw [if_neg c66] at H
              have c66b0 : (t294 == t296) = false := beq_eq_false_iff_ne.mpr c66
              have c66b1 : (t294 != t296) = true := bne_iff_ne.mpr c66
              exact absurd (H.trans (congrArg some HRT.out)) (by cases k <;> simp [laws_FnRunnersMeetOfAll.j0])
           ·
            replace c64 := Bool.eq_false_iff.mpr c64
            subst c64
            rw [if_neg (show ¬ (false = true) by decide)] at H
            exact absurd (H.trans (congrArg some HRT.out)) (by cases k <;> simp [laws_FnRunnersMeetOfAll.j0])
         ·
          rw [if_neg c61] at H
          have c61b0 : (t281 == t284) = false := beq_eq_false_iff_ne.mpr c61
          have c61b1 : (t281 != t284) = true := bne_iff_ne.mpr c61
          exact absurd (H.trans (congrArg some HRT.out)) (by cases k <;> simp [laws_FnRunnersMeetOfAll.j0])
        ·
         rw [if_neg c60] at H
         have c60b0 : (t280 == t283) = false := beq_eq_false_iff_ne.mpr c60
         have c60b1 : (t280 != t283) = true := bne_iff_ne.mpr c60
         exact absurd (H.trans (congrArg some HRT.out)) (by cases k <;> simp [laws_FnRunnersMeetOfAll.j0])
      ·
       rw [if_neg c58] at H
       have c58b0 : (t276 == t278) = false := beq_eq_false_iff_ne.mpr c58
       have c58b1 : (t276 != t278) = true := bne_iff_ne.mpr c58
       exact absurd (H.trans (congrArg some HRT.out)) (by cases k <;> simp [laws_FnRunnersMeetOfAll.j0])
    ·
     replace c56 := Bool.eq_false_iff.mpr c56
     subst c56
     rw [if_neg (show ¬ (false = true) by decide)] at H
     exact absurd (H.trans (congrArg some HRT.out)) (by cases k <;> simp [laws_FnRunnersMeetOfAll.j0])
  case rest => as_aux_lemma =>
   clear HC20
   (try clear c5); (try clear c7); (try clear c7b0); (try clear c7b1); (try clear hcz24_0); (try clear hcz24_1); (try clear hcz25_0); (try clear hcz25_1); (try clear hcz27_0); (try clear hcz27_1); (try clear hcz28_0); (try clear hcz28_1); (try clear hcz30_0); (try clear hcz30_1); (try clear hcz31_0); (try clear hcz31_1); (try clear hcz33_0); (try clear hcz33_1); (try clear hcz34_0); (try clear hcz34_1); (try clear hcz36_0); (try clear hcz36_1); (try clear hcz37_0); (try clear hcz37_1); (try clear hcz39_0); (try clear hcz39_1); (try clear hcz40_0); (try clear hcz40_1); (try clear hcz42_0); (try clear hcz42_1); (try clear hcz43_0); (try clear hcz43_1); (try clear hcz45_0); (try clear hcz45_1); (try clear hcz46_0); (try clear hcz46_1); (try clear hcz48_0); (try clear hcz48_1); (try clear hcz49_0); (try clear hcz49_1); (try clear hcz51_0); (try clear hcz51_1); (try clear hcz52_0); (try clear hcz52_1); (try clear hfz24_0); (try clear hfz24_1); (try clear hfz25_0); (try clear hfz25_1); (try clear hfz27_0); (try clear hfz27_1); (try clear hfz28_0); (try clear hfz28_1); (try clear hfz30_0); (try clear hfz30_1); (try clear hfz31_0); (try clear hfz31_1); (try clear hfz33_0); (try clear hfz33_1); (try clear hfz34_0); (try clear hfz34_1); (try clear hfz36_0); (try clear hfz36_1); (try clear hfz37_0); (try clear hfz37_1); (try clear hfz39_0); (try clear hfz39_1); (try clear hfz40_0); (try clear hfz40_1); (try clear hfz42_0); (try clear hfz42_1); (try clear hfz43_0); (try clear hfz43_1); (try clear hfz45_0); (try clear hfz45_1); (try clear hfz46_0); (try clear hfz46_1); (try clear hfz48_0); (try clear hfz48_1); (try clear hfz49_0); (try clear hfz49_1); (try clear hfz51_0); (try clear hfz51_1); (try clear hfz52_0); (try clear hfz52_1)
   obtain ⟨kq, x233_19, rfl, HA, HJ19, HO_13, HO_27, BK266, BK267, HB⟩ := hcut
   cases kq with
   | zero => exact absurd HA.out (by simp [laws_FnRunnersMeetOfAll.j0])
   | succ kj19 =>
    have H := HA.out
    clear HA
    simp only [laws_FnRunnersMeetOfAll.j0] at H
    by_cases c88 : x233_19 = true
    ·
     subst c88
     rw [if_pos rfl] at H
     exact absurd ((Option.some.inj H).trans HRT.out) (by decide)
    ·
     replace c88 := Bool.eq_false_iff.mpr c88
     subst c88
     rw [if_neg (show ¬ (false = true) by decide)] at H
     have HC89 := Aside0.mk H
     clear H
     go_upto_if 234 with (fail)
     go_cut [] from 235 to 313 (fun wc => ∃ (kq : Nat), Aside0 (laws_FnRunnersMeetOfAll.j3 kq a0 a3 a4 l5 t276 t281 t282 t286 t289 t294 t295 a1_0 a1_1 a2_0 a2_1 = some r) ∧ Aside0 (kq ≤ kj19) ∧ Aside0 (Kd.R (Kd.int .i64) 3 wc w.heap.size (fun _ => True) v287 t286) ∧ Aside0 (wc.heap[gb266]? = some (.cells #[.int .i64 a1_0, .int .i64 a1_1] 45 (0, 0))) ∧ Aside0 (wc.heap[gb267]? = some (.cells #[.int .i64 a2_0, .int .i64 a2_1] 45 (0, 0))) ∧ Aside0 (Below w.heap.size w wc))
     case first => as_aux_lemma =>
      have H := HC89.out
      clear HC89
      by_cases c90 : t271 = true
      ·
       subst c90
       rw [if_pos rfl] at H
       have HC91 := Aside0.mk H
       clear H
       go_upto_region 16 with (fail)
       go_cut [266] from 235 to 266 (fun v266 wc => ∃ (kq : Nat) (x266_90 : Bool), v266 = .bool x266_90 ∧ Aside0 (laws_FnRunnersMeetOfAll.j1 kq a0 a3 a4 l5 t268 t276 t281 t282 t286 t289 t294 t295 x266_90 a1_0 a1_1 a2_0 a2_1 = some r) ∧ Aside0 (kq ≤ kj19) ∧ Aside0 (Kd.R (Kd.int .i64) 3 wc w.heap.size (fun k_ => some k_ ≠ (v287 : Value).ownBlock) v269 t268) ∧ Aside0 (Kd.R (Kd.int .i64) 3 wc w.heap.size (fun k_ => some k_ ≠ (v269 : Value).ownBlock) v287 t286) ∧ Aside0 (wc.heap[gb266]? = some (.cells #[.int .i64 a1_0, .int .i64 a1_1] 45 (0, 0))) ∧ Aside0 (wc.heap[gb267]? = some (.cells #[.int .i64 a2_0, .int .i64 a2_1] 45 (0, 0))) ∧ Aside0 (Below w.heap.size w wc))
       case first => as_aux_lemma =>
        have H := HC91.out
        clear HC91
        replace H := Option.bind_eq_some_iff.mp H
        obtain ⟨t300, A920, H⟩ := H
        (try dsimp only at H)
        have A92 := Aside0.mk A920
        clear A920
        by_cases c93 : t300 = true
        ·
         subst c93
         rw [if_pos rfl] at H
         by_cases c94 : (t268.length : Int) > 0
         ·
          rw [if_pos c94] at H
          have c94b0 : decide (0 < (t268.length : Int)) = true := decide_eq_true c94
          have c94b1 : decide (0 < t268.length) = true := decide_eq_true (by omega)
          clear c94
          (first | rw [c94b0] | (simp only [i64_w, i32_w]; rw [c94b0]) | skip)
          by_cases c95 : t282 = true
          ·
           subst c95
           rw [if_pos rfl] at H
           by_cases c96 : 0 < (t268.length : Int)
           ·
            rw [if_pos c96] at H
            have c96b0 : decide (0 < (t268.length : Int)) = true := decide_eq_true c96
            have c96b1 : decide (0 < t268.length) = true := decide_eq_true (by omega)
            clear c96
            by_cases c97 : (rd t268 0) = t280
            ·
             rw [if_pos c97] at H
             have c97b0 : ((rd t268 0) == t280) = true := beq_iff_eq.mpr c97
             have c97b1 : ((rd t268 0) != t280) = false := bne_eq_false_iff_eq.mpr c97
             clear c97
             by_cases c98 : t280 ≤ a3
             ·
              rw [if_pos c98] at H
              have c98b0 : decide (t280 ≤ a3) = true := decide_eq_true c98
              clear c98
              have H' := Aside0.mk H
              clear H
              obtain ⟨Ao99, co99, eo99⟩ := Kd.R_slice HO_13.out
              subst eo99
              go_wp2_with (first | ((with_reducible refine gate_callee (f := 33) rfl ?_); refine goesL_ (some 236) rfl rfl Try.func33 (by kernel_rfl) rfl #[.slice Ao99 t268.length co99] rfl (by (try simp only [List.map_toArray, List.map_cons, List.map_nil]); first | done | rfl | (simp only [List.length_drop, List.length_take]; rfl)) ?_; (with_reducible refine (laws_qRises.calls kj19 _ _ t268 true _ ?side1 ?side2 A92.out).mono ?_); (case side1 => repeat (first | exact (Kd.R_reads' HO_13.out).2.2 | (with_reducible refine Kd.C_alloc ?_ _) | (with_reducible refine Kd.C_drewN ?_ _) | (with_reducible refine Kd.C_drew ?_))); (case side2 => exact (Kd.R_reads' HO_13.out).2.1); rintro e w' ⟨rfl, ⟨nd, rfl⟩⟩; refine ⟨_, rfl, ?_⟩; have p301 : 0 ≤ (0 : Int) := (by omega); have q301 : 0 < (t268.length : Int) := of_decide_eq_true (by first | (with_reducible assumption) | assumption); obtain ⟨ad301, e301, hx301_0⟩ := Kd.at_int (Kd.R_reads' HO_13.out).2.2 0 p301 q301; cases e301; have qi301 : (0 < t268.length) = True := eq_true (by omega); (try rw [show ((0 : Int)).toNat = 0 from rfl] at hx301_0); (try rw [Addr.add_zero'] at hx301_0); replace p301 := eq_true p301; replace q301 := eq_true q301))
              go_meet
              case rel => exact ⟨_, (((t268.length : Int) == 0)), (by first | rfl | (simp; done) | (simp [*]; done)), H', ⟨by have := HJ19.out; first | omega | exact Nat.le_refl _⟩, ⟨by (with_reducible repeat (first | apply Kd.R_alloc | apply Kd.R_drewN | apply Kd.R_drew)); exact HO_13.out⟩, ⟨by (with_reducible repeat (first | apply Kd.R_alloc | apply Kd.R_drewN | apply Kd.R_drew)); exact HO_27.out⟩, ⟨by (with_reducible repeat (first | refine blk_drewN ?_ _ | refine blk_drew ?_ | refine blk_alloc ?_ _)); exact BK266.out⟩, ⟨by (with_reducible repeat (first | refine blk_drewN ?_ _ | refine blk_drew ?_ | refine blk_alloc ?_ _)); exact BK267.out⟩, ⟨bw_⟩⟩
             ·
              rw [if_neg c98] at H
              have c98b0 : decide (t280 ≤ a3) = false := decide_eq_false c98
              clear c98
              have H' := Aside0.mk H
              clear H
              obtain ⟨Ao100, co100, eo100⟩ := Kd.R_slice HO_13.out
              subst eo100
              go_wp2_with (first | ((with_reducible refine gate_callee (f := 33) rfl ?_); refine goesL_ (some 236) rfl rfl Try.func33 (by kernel_rfl) rfl #[.slice Ao100 t268.length co100] rfl (by (try simp only [List.map_toArray, List.map_cons, List.map_nil]); first | done | rfl | (simp only [List.length_drop, List.length_take]; rfl)) ?_; (with_reducible refine (laws_qRises.calls kj19 _ _ t268 true _ ?side1 ?side2 A92.out).mono ?_); (case side1 => repeat (first | exact (Kd.R_reads' HO_13.out).2.2 | (with_reducible refine Kd.C_alloc ?_ _) | (with_reducible refine Kd.C_drewN ?_ _) | (with_reducible refine Kd.C_drew ?_))); (case side2 => exact (Kd.R_reads' HO_13.out).2.1); rintro e w' ⟨rfl, ⟨nd, rfl⟩⟩; refine ⟨_, rfl, ?_⟩; have p301 : 0 ≤ (0 : Int) := (by omega); have q301 : 0 < (t268.length : Int) := of_decide_eq_true (by first | (with_reducible assumption) | assumption); obtain ⟨ad301, e301, hx301_0⟩ := Kd.at_int (Kd.R_reads' HO_13.out).2.2 0 p301 q301; cases e301; have qi301 : (0 < t268.length) = True := eq_true (by omega); (try rw [show ((0 : Int)).toNat = 0 from rfl] at hx301_0); (try rw [Addr.add_zero'] at hx301_0); replace p301 := eq_true p301; replace q301 := eq_true q301))
              go_meet
              case rel => exact ⟨_, (false), (by first | rfl | (simp; done) | (simp [*]; done)), H', ⟨by have := HJ19.out; first | omega | exact Nat.le_refl _⟩, ⟨by (with_reducible repeat (first | apply Kd.R_alloc | apply Kd.R_drewN | apply Kd.R_drew)); exact HO_13.out⟩, ⟨by (with_reducible repeat (first | apply Kd.R_alloc | apply Kd.R_drewN | apply Kd.R_drew)); exact HO_27.out⟩, ⟨by (with_reducible repeat (first | refine blk_drewN ?_ _ | refine blk_drew ?_ | refine blk_alloc ?_ _)); exact BK266.out⟩, ⟨by (with_reducible repeat (first | refine blk_drewN ?_ _ | refine blk_drew ?_ | refine blk_alloc ?_ _)); exact BK267.out⟩, ⟨bw_⟩⟩
            ·
             rw [if_neg c97] at H
             have c97b0 : ((rd t268 0) == t280) = false := beq_eq_false_iff_ne.mpr c97
             have c97b1 : ((rd t268 0) != t280) = true := bne_iff_ne.mpr c97
             exact absurd (H.trans (congrArg some HRT.out)) (by cases kj19 <;> simp [laws_FnRunnersMeetOfAll.j1])
           ·
            rw [if_neg c96] at H
            exact absurd H (by simp)
          ·
           replace c95 := Bool.eq_false_iff.mpr c95
           subst c95
           rw [if_neg (show ¬ (false = true) by decide)] at H
           exact absurd (H.trans (congrArg some HRT.out)) (by cases kj19 <;> simp [laws_FnRunnersMeetOfAll.j1])
         ·
          rw [if_neg c94] at H
          have c94b0 : decide (0 < (t268.length : Int)) = false := decide_eq_false c94
          have c94b1 : decide (0 < t268.length) = false := decide_eq_false (by omega)
          clear c94
          (first | rw [c94b0] | (simp only [i64_w, i32_w]; rw [c94b0]) | skip)
          by_cases c101 : t282 = true
          ·
           subst c101
           rw [if_pos rfl] at H
           by_cases c102 : t280 ≤ a3
           ·
            rw [if_pos c102] at H
            have c102b0 : decide (t280 ≤ a3) = true := decide_eq_true c102
            clear c102
            have H' := Aside0.mk H
            clear H
            obtain ⟨Ao103, co103, eo103⟩ := Kd.R_slice HO_13.out
            subst eo103
            go_wp2_with (first | ((with_reducible refine gate_callee (f := 33) rfl ?_); refine goesL_ (some 236) rfl rfl Try.func33 (by kernel_rfl) rfl #[.slice Ao103 t268.length co103] rfl (by (try simp only [List.map_toArray, List.map_cons, List.map_nil]); first | done | rfl | (simp only [List.length_drop, List.length_take]; rfl)) ?_; (with_reducible refine (laws_qRises.calls kj19 _ _ t268 true _ ?side1 ?side2 A92.out).mono ?_); (case side1 => repeat (first | exact (Kd.R_reads' HO_13.out).2.2 | (with_reducible refine Kd.C_alloc ?_ _) | (with_reducible refine Kd.C_drewN ?_ _) | (with_reducible refine Kd.C_drew ?_))); (case side2 => exact (Kd.R_reads' HO_13.out).2.1); rintro e w' ⟨rfl, ⟨nd, rfl⟩⟩; refine ⟨_, rfl, ?_⟩))
            go_meet
            case rel => exact ⟨_, (((t268.length : Int) == 0)), (by first | rfl | (simp; done) | (simp [*]; done)), H', ⟨by have := HJ19.out; first | omega | exact Nat.le_refl _⟩, ⟨by (with_reducible repeat (first | apply Kd.R_alloc | apply Kd.R_drewN | apply Kd.R_drew)); exact HO_13.out⟩, ⟨by (with_reducible repeat (first | apply Kd.R_alloc | apply Kd.R_drewN | apply Kd.R_drew)); exact HO_27.out⟩, ⟨by (with_reducible repeat (first | refine blk_drewN ?_ _ | refine blk_drew ?_ | refine blk_alloc ?_ _)); exact BK266.out⟩, ⟨by (with_reducible repeat (first | refine blk_drewN ?_ _ | refine blk_drew ?_ | refine blk_alloc ?_ _)); exact BK267.out⟩, ⟨bw_⟩⟩
           ·
            rw [if_neg c102] at H
            have c102b0 : decide (t280 ≤ a3) = false := decide_eq_false c102
            clear c102
            have H' := Aside0.mk H
            clear H
            obtain ⟨Ao104, co104, eo104⟩ := Kd.R_slice HO_13.out
            subst eo104
            go_wp2_with (first | ((with_reducible refine gate_callee (f := 33) rfl ?_); refine goesL_ (some 236) rfl rfl Try.func33 (by kernel_rfl) rfl #[.slice Ao104 t268.length co104] rfl (by (try simp only [List.map_toArray, List.map_cons, List.map_nil]); first | done | rfl | (simp only [List.length_drop, List.length_take]; rfl)) ?_; (with_reducible refine (laws_qRises.calls kj19 _ _ t268 true _ ?side1 ?side2 A92.out).mono ?_); (case side1 => repeat (first | exact (Kd.R_reads' HO_13.out).2.2 | (with_reducible refine Kd.C_alloc ?_ _) | (with_reducible refine Kd.C_drewN ?_ _) | (with_reducible refine Kd.C_drew ?_))); (case side2 => exact (Kd.R_reads' HO_13.out).2.1); rintro e w' ⟨rfl, ⟨nd, rfl⟩⟩; refine ⟨_, rfl, ?_⟩))
            go_meet
            case rel => exact ⟨_, (false), (by first | rfl | (simp; done) | (simp [*]; done)), H', ⟨by have := HJ19.out; first | omega | exact Nat.le_refl _⟩, ⟨by (with_reducible repeat (first | apply Kd.R_alloc | apply Kd.R_drewN | apply Kd.R_drew)); exact HO_13.out⟩, ⟨by (with_reducible repeat (first | apply Kd.R_alloc | apply Kd.R_drewN | apply Kd.R_drew)); exact HO_27.out⟩, ⟨by (with_reducible repeat (first | refine blk_drewN ?_ _ | refine blk_drew ?_ | refine blk_alloc ?_ _)); exact BK266.out⟩, ⟨by (with_reducible repeat (first | refine blk_drewN ?_ _ | refine blk_drew ?_ | refine blk_alloc ?_ _)); exact BK267.out⟩, ⟨bw_⟩⟩
          ·
           replace c101 := Bool.eq_false_iff.mpr c101
           subst c101
           rw [if_neg (show ¬ (false = true) by decide)] at H
           have H' := Aside0.mk H
           clear H
           obtain ⟨Ao105, co105, eo105⟩ := Kd.R_slice HO_13.out
           subst eo105
           go_wp2_with (first | ((with_reducible refine gate_callee (f := 33) rfl ?_); refine goesL_ (some 236) rfl rfl Try.func33 (by kernel_rfl) rfl #[.slice Ao105 t268.length co105] rfl (by (try simp only [List.map_toArray, List.map_cons, List.map_nil]); first | done | rfl | (simp only [List.length_drop, List.length_take]; rfl)) ?_; (with_reducible refine (laws_qRises.calls kj19 _ _ t268 true _ ?side1 ?side2 A92.out).mono ?_); (case side1 => repeat (first | exact (Kd.R_reads' HO_13.out).2.2 | (with_reducible refine Kd.C_alloc ?_ _) | (with_reducible refine Kd.C_drewN ?_ _) | (with_reducible refine Kd.C_drew ?_))); (case side2 => exact (Kd.R_reads' HO_13.out).2.1); rintro e w' ⟨rfl, ⟨nd, rfl⟩⟩; refine ⟨_, rfl, ?_⟩))
           go_meet
           case rel => exact ⟨_, (false), (by first | rfl | (simp; done) | (simp [*]; done)), H', ⟨by have := HJ19.out; first | omega | exact Nat.le_refl _⟩, ⟨by (with_reducible repeat (first | apply Kd.R_alloc | apply Kd.R_drewN | apply Kd.R_drew)); exact HO_13.out⟩, ⟨by (with_reducible repeat (first | apply Kd.R_alloc | apply Kd.R_drewN | apply Kd.R_drew)); exact HO_27.out⟩, ⟨by (with_reducible repeat (first | refine blk_drewN ?_ _ | refine blk_drew ?_ | refine blk_alloc ?_ _)); exact BK266.out⟩, ⟨by (with_reducible repeat (first | refine blk_drewN ?_ _ | refine blk_drew ?_ | refine blk_alloc ?_ _)); exact BK267.out⟩, ⟨bw_⟩⟩
        ·
         replace c93 := Bool.eq_false_iff.mpr c93
         subst c93
         rw [if_neg (show ¬ (false = true) by decide)] at H
         exact absurd (H.trans (congrArg some HRT.out)) (by cases kj19 <;> simp [laws_FnRunnersMeetOfAll.j1])
       case rest => as_aux_lemma =>
        clear HC91
        (try clear c5); (try clear c7); (try clear c7b0); (try clear c7b1); (try clear c88); (try clear c90); (try clear hcz24_0); (try clear hcz24_1); (try clear hcz25_0); (try clear hcz25_1); (try clear hcz27_0); (try clear hcz27_1); (try clear hcz28_0); (try clear hcz28_1); (try clear hcz30_0); (try clear hcz30_1); (try clear hcz31_0); (try clear hcz31_1); (try clear hcz33_0); (try clear hcz33_1); (try clear hcz34_0); (try clear hcz34_1); (try clear hcz36_0); (try clear hcz36_1); (try clear hcz37_0); (try clear hcz37_1); (try clear hcz39_0); (try clear hcz39_1); (try clear hcz40_0); (try clear hcz40_1); (try clear hcz42_0); (try clear hcz42_1); (try clear hcz43_0); (try clear hcz43_1); (try clear hcz45_0); (try clear hcz45_1); (try clear hcz46_0); (try clear hcz46_1); (try clear hcz48_0); (try clear hcz48_1); (try clear hcz49_0); (try clear hcz49_1); (try clear hcz51_0); (try clear hcz51_1); (try clear hcz52_0); (try clear hcz52_1); (try clear hfz24_0); (try clear hfz24_1); (try clear hfz25_0); (try clear hfz25_1); (try clear hfz27_0); (try clear hfz27_1); (try clear hfz28_0); (try clear hfz28_1); (try clear hfz30_0); (try clear hfz30_1); (try clear hfz31_0); (try clear hfz31_1); (try clear hfz33_0); (try clear hfz33_1); (try clear hfz34_0); (try clear hfz34_1); (try clear hfz36_0); (try clear hfz36_1); (try clear hfz37_0); (try clear hfz37_1); (try clear hfz39_0); (try clear hfz39_1); (try clear hfz40_0); (try clear hfz40_1); (try clear hfz42_0); (try clear hfz42_1); (try clear hfz43_0); (try clear hfz43_1); (try clear hfz45_0); (try clear hfz45_1); (try clear hfz46_0); (try clear hfz46_1); (try clear hfz48_0); (try clear hfz48_1); (try clear hfz49_0); (try clear hfz49_1); (try clear hfz51_0); (try clear hfz51_1); (try clear hfz52_0); (try clear hfz52_1)
        obtain ⟨kq, x266_90, rfl, HA, HJ90, HO_13, HO_27, BK266, BK267, HB⟩ := hcut
        cases kq with
        | zero => exact absurd HA.out (by simp [laws_FnRunnersMeetOfAll.j1])
        | succ kj90 =>
         have H := HA.out
         clear HA
         simp only [laws_FnRunnersMeetOfAll.j1] at H
         by_cases c106 : x266_90 = true
         ·
          subst c106
          rw [if_pos rfl] at H
          exact absurd ((Option.some.inj H).trans HRT.out) (by decide)
         ·
          replace c106 := Bool.eq_false_iff.mpr c106
          subst c106
          rw [if_neg (show ¬ (false = true) by decide)] at H
          have H' := Aside0.mk H
          clear H
          obtain ⟨Ao107, co107, eo107⟩ := Kd.R_slice HO_13.out
          subst eo107
          go_wp2
          go_loopg [269] kj90 (fun kq v269 w' => ∃ (x269_3 : Int), v269 = .int .i64 x269_3 ∧ Aside0 (laws_FnRunnersMeetOfAll.l0 kq a0 a3 a4 l5 t276 t281 t282 t286 t289 t294 t295 t268 (t268.length : Int) x269_3 a1_0 a1_1 a2_0 a2_1 = some r) ∧ Aside0 (kq ≤ kj90) ∧ Aside0 (Kd.R (Kd.int .i64) 3 w' w.heap.size (fun k_ => some k_ ≠ ((.slice Ao107 t268.length co107) : Value).ownBlock) v287 t286) ∧ Aside0 (Kd.R (Kd.int .i64) 3 w' w.heap.size (fun k_ => some k_ ≠ (v287 : Value).ownBlock) (.slice Ao107 t268.length co107) t268) ∧ Aside0 (w'.heap[gb266]? = some (.cells #[.int .i64 a1_0, .int .i64 a1_1] 45 (0, 0))) ∧ Aside0 (w'.heap[gb267]? = some (.cells #[.int .i64 a2_0, .int .i64 a2_1] 45 (0, 0))) ∧ Aside0 (Below w.heap.size w w'))
          case atStart => exact ⟨(0), (by first | rfl | (simp; done) | (simp [*]; done)), H', ⟨Nat.le_refl _⟩, ⟨by (with_reducible repeat (first | apply Kd.R_alloc | apply Kd.R_drewN | apply Kd.R_drew)); exact HO_27.out⟩, ⟨by (with_reducible repeat (first | apply Kd.R_alloc | apply Kd.R_drewN | apply Kd.R_drew)); exact HO_13.out⟩, ⟨by (with_reducible repeat (first | refine blk_drewN ?_ _ | refine blk_drew ?_ | refine blk_alloc ?_ _)); exact BK266.out⟩, ⟨by (with_reducible repeat (first | refine blk_drewN ?_ _ | refine blk_drew ?_ | refine blk_alloc ?_ _)); exact BK267.out⟩, ⟨bw_⟩⟩
          case round => as_aux_lemma =>
           clear H'
           (try clear c5); (try clear c7); (try clear c7b0); (try clear c7b1); (try clear c88); (try clear c90); (try clear c106); (try clear hcz24_0); (try clear hcz24_1); (try clear hcz25_0); (try clear hcz25_1); (try clear hcz27_0); (try clear hcz27_1); (try clear hcz28_0); (try clear hcz28_1); (try clear hcz30_0); (try clear hcz30_1); (try clear hcz31_0); (try clear hcz31_1); (try clear hcz33_0); (try clear hcz33_1); (try clear hcz34_0); (try clear hcz34_1); (try clear hcz36_0); (try clear hcz36_1); (try clear hcz37_0); (try clear hcz37_1); (try clear hcz39_0); (try clear hcz39_1); (try clear hcz40_0); (try clear hcz40_1); (try clear hcz42_0); (try clear hcz42_1); (try clear hcz43_0); (try clear hcz43_1); (try clear hcz45_0); (try clear hcz45_1); (try clear hcz46_0); (try clear hcz46_1); (try clear hcz48_0); (try clear hcz48_1); (try clear hcz49_0); (try clear hcz49_1); (try clear hcz51_0); (try clear hcz51_1); (try clear hcz52_0); (try clear hcz52_1); (try clear hfz24_0); (try clear hfz24_1); (try clear hfz25_0); (try clear hfz25_1); (try clear hfz27_0); (try clear hfz27_1); (try clear hfz28_0); (try clear hfz28_1); (try clear hfz30_0); (try clear hfz30_1); (try clear hfz31_0); (try clear hfz31_1); (try clear hfz33_0); (try clear hfz33_1); (try clear hfz34_0); (try clear hfz34_1); (try clear hfz36_0); (try clear hfz36_1); (try clear hfz37_0); (try clear hfz37_1); (try clear hfz39_0); (try clear hfz39_1); (try clear hfz40_0); (try clear hfz40_1); (try clear hfz42_0); (try clear hfz42_1); (try clear hfz43_0); (try clear hfz43_1); (try clear hfz45_0); (try clear hfz45_1); (try clear hfz46_0); (try clear hfz46_1); (try clear hfz48_0); (try clear hfz48_1); (try clear hfz49_0); (try clear hfz49_1); (try clear hfz51_0); (try clear hfz51_1); (try clear hfz52_0); (try clear hfz52_1)
           obtain ⟨x269_3, rfl, HA, HK3, HO_27, HO_267, BK266, BK267, HB⟩ := hrel
           cases gk with
           | zero => exact absurd HA.out (by simp [laws_FnRunnersMeetOfAll.l0])
           | succ k3 =>
            have H := HA.out
            clear HA
            simp only [laws_FnRunnersMeetOfAll.l0] at H
            by_cases c108 : x269_3 < (t268.length : Int)
            ·
             rw [if_pos c108] at H
             have c108b0 : decide (x269_3 < (t268.length : Int)) = true := decide_eq_true c108
             clear c108
             by_cases c109 : 0 ≤ x269_3
             ·
              rw [if_pos c109] at H
              have c109b0 : decide (0 ≤ x269_3) = true := decide_eq_true c109
              clear c109
              by_cases c110 : x269_3 < (t268.length : Int)
              ·
               rw [if_pos c110] at H
               have c110b0 : decide (x269_3 < (t268.length : Int)) = true := decide_eq_true c110
               clear c110
               replace H := Option.bind_eq_some_iff.mp H
               obtain ⟨⟨t303, t304⟩, A1110, H⟩ := H
               (try dsimp only at H)
               have A111 := Aside0.mk A1110
               clear A1110
               replace H := Option.bind_eq_some_iff.mp H
               obtain ⟨⟨t305, t306⟩, A1120, H⟩ := H
               (try dsimp only at H)
               have A112 := Aside0.mk A1120
               clear A1120
               by_cases c113 : t304 = true
               ·
                subst c113
                rw [if_pos rfl] at H
                by_cases c114 : t306 = true
                ·
                 subst c114
                 rw [if_pos rfl] at H
                 by_cases c115 : t303 = t305
                 ·
                  rw [if_pos c115] at H
                  have c115b0 : (t303 == t305) = true := beq_iff_eq.mpr c115
                  have c115b1 : (t303 != t305) = false := bne_eq_false_iff_eq.mpr c115
                  clear c115
                  by_cases c116 : (rd t268 x269_3) < 0
                  ·
                   rw [if_pos c116] at H
                   have c116b0 : decide ((rd t268 x269_3) < 0) = true := decide_eq_true c116
                   clear c116
                   exact absurd ((Option.some.inj H).trans HRT.out) (by decide)
                  ·
                   rw [if_neg c116] at H
                   have c116b0 : decide ((rd t268 x269_3) < 0) = false := decide_eq_false c116
                   clear c116
                   by_cases c117 : (rd t268 x269_3) > a3
                   ·
                    rw [if_pos c117] at H
                    have c117b0 : decide (a3 < (rd t268 x269_3)) = true := decide_eq_true c117
                    clear c117
                    exact absurd ((Option.some.inj H).trans HRT.out) (by decide)
                   ·
                    rw [if_neg c117] at H
                    have c117b0 : decide (a3 < (rd t268 x269_3)) = false := decide_eq_false c117
                    clear c117
                    replace H := Option.bind_eq_some_iff.mp H
                    obtain ⟨t307, A1180, H⟩ := H
                    (try dsimp only at H)
                    have A118 := Aside0.mk A1180
                    clear A1180
                    by_cases c119 : t307 = true
                    ·
                     subst c119
                     rw [if_pos rfl] at H
                     have H' := Aside0.mk H
                     clear H
                     have p302 : 0 ≤ (x269_3 : Int) := of_decide_eq_true (by first | (with_reducible assumption) | assumption)
                     have q302 : x269_3 < (t268.length : Int) := of_decide_eq_true (by first | (with_reducible assumption) | assumption)
                     obtain ⟨ad302, e302, hx302_0⟩ := Kd.at_int (Kd.R_reads' HO_267.out).2.2 x269_3 p302 q302
                     cases e302
                     replace p302 := eq_true p302
                     replace q302 := eq_true q302
                     have hnb120 := NB266_267.out
                     have hnc120 := NB267_266.out
                     have hcz121_0 : wr.cell? ⟨gb266, 0, none⟩ = some (.int .i64 a1_0) := (blk_cell BK266.out 0).trans rfl
                     have hcz121_1 : wr.cell? ⟨gb266, 1, none⟩ = some (.int .i64 a1_1) := (blk_cell BK266.out 1).trans rfl
                     have hfz121_0 := blk_frozen BK266.out 0
                     have hfz121_1 := blk_frozen BK266.out 1
                     go_wp2_with (first | ((with_reducible refine gate_callee (f := 34) rfl ?_); refine goesL_ (some 277) rfl rfl Try.func34 (by kernel_rfl) rfl #[.int .i64 a0, .agg #[.int .i64 a1_0, .int .i64 a1_1], .int .i64 (rd t268 x269_3)] rfl (by (try simp only [List.map_toArray, List.map_cons, List.map_nil]); first | done | rfl | (simp only [List.length_drop, List.length_take]; rfl)) ?_; (with_reducible refine (impl_PlaceOnTrack.calls a0 a1_0 a1_1 (rd t268 x269_3) t303 true _ A111.out).mono ?_); rintro e w122 ⟨rfl, hb⟩; refine ⟨_, rfl, ?_⟩; have n0_ := Aside0.mk (Kd.R_below (by (with_reducible repeat (first | apply Kd.R_alloc | apply Kd.R_drewN | apply Kd.R_drew)); exact HO_27.out) hb); have n1_ := Aside0.mk (Kd.R_below (by (with_reducible repeat (first | apply Kd.R_alloc | apply Kd.R_drewN | apply Kd.R_drew)); exact HO_267.out) hb); have n2_ := Aside0.mk (blk_below (g := gb266) (o := .cells #[.int .i64 a1_0, .int .i64 a1_1] 45 (0, 0)) bk_ hb); have n3_ := Aside0.mk (blk_below (g := gb267) (o := .cells #[.int .i64 a2_0, .int .i64 a2_1] 45 (0, 0)) bk_ hb); have n4_ := Aside0.mk (below_step bw_ hb); clear HO_27; clear HO_267; clear BK266; clear BK267; clear HB; have HO_27 := n0_; have HO_267 := n1_; have BK266 := n2_; have BK267 := n3_; have HB := n4_; clear n0_ n1_ n2_ n3_ n4_; (try clear hb); (try clear hb2); (try clear hk); (try clear hi); have hcz123_0 : w122.cell? ⟨gb267, 0, none⟩ = some (.int .i64 a2_0) := (blk_cell BK267.out 0).trans rfl; have hcz123_1 : w122.cell? ⟨gb267, 1, none⟩ = some (.int .i64 a2_1) := (blk_cell BK267.out 1).trans rfl; have hfz123_0 := blk_frozen BK267.out 0; have hfz123_1 := blk_frozen BK267.out 1) | ((with_reducible refine gate_callee (f := 34) rfl ?_); refine goesL_ (some 284) rfl rfl Try.func34 (by kernel_rfl) rfl #[.int .i64 a0, .agg #[.int .i64 a2_0, .int .i64 a2_1], .int .i64 (rd t268 x269_3)] rfl (by (try simp only [List.map_toArray, List.map_cons, List.map_nil]); first | done | rfl | (simp only [List.length_drop, List.length_take]; rfl)) ?_; (with_reducible refine (impl_PlaceOnTrack.calls a0 a2_0 a2_1 (rd t268 x269_3) t305 true _ A112.out).mono ?_); rintro e w124 ⟨rfl, hb⟩; refine ⟨_, rfl, ?_⟩; have n0_ := Aside0.mk (Kd.R_below (by (with_reducible repeat (first | apply Kd.R_alloc | apply Kd.R_drewN | apply Kd.R_drew)); exact HO_27.out) hb); have n1_ := Aside0.mk (Kd.R_below (by (with_reducible repeat (first | apply Kd.R_alloc | apply Kd.R_drewN | apply Kd.R_drew)); exact HO_267.out) hb); have n2_ := Aside0.mk (blk_below (g := gb266) (o := .cells #[.int .i64 a1_0, .int .i64 a1_1] 45 (0, 0)) bk_ hb); have n3_ := Aside0.mk (blk_below (g := gb267) (o := .cells #[.int .i64 a2_0, .int .i64 a2_1] 45 (0, 0)) bk_ hb); have n4_ := Aside0.mk (below_step bw_ hb); clear HO_27; clear HO_267; clear BK266; clear BK267; clear HB; have HO_27 := n0_; have HO_267 := n1_; have BK266 := n2_; have BK267 := n3_; have HB := n4_; clear n0_ n1_ n2_ n3_ n4_; (try clear hb); (try clear hb2); (try clear hk); (try clear hi); obtain ⟨Ao125, co125, eo125⟩ := Kd.R_slice HO_27.out; subst eo125) | (go_at_call 35; (with_reducible refine (laws_qHas.calls k3 _ _ t286 t303 true _ ?side1 ?side2 A118.out).mono ?_); (case side1 => repeat (first | exact (Kd.R_reads' HO_27.out).2.2 | (with_reducible refine Kd.C_alloc ?_ _) | (with_reducible refine Kd.C_drewN ?_ _) | (with_reducible refine Kd.C_drew ?_))); (case side2 => exact (Kd.R_reads' HO_27.out).2.1); rintro e w' ⟨rfl, ⟨nd, rfl⟩⟩))
                     go_roundg k3
                     case measure => have := HJ19.out; have := HJ90.out; have := HK3.out; omega
                     case rel => exact ⟨(wrap64 (x269_3 + 1)), (by first | rfl | (simp; done) | (simp [*]; done)), H', ⟨by have := HJ19.out; have := HJ90.out; have := HK3.out; omega⟩, ⟨by (with_reducible repeat (first | apply Kd.R_alloc | apply Kd.R_drewN | apply Kd.R_drew)); exact HO_27.out⟩, ⟨by (with_reducible repeat (first | apply Kd.R_alloc | apply Kd.R_drewN | apply Kd.R_drew)); exact HO_267.out⟩, ⟨by (with_reducible repeat (first | refine blk_drewN ?_ _ | refine blk_drew ?_ | refine blk_alloc ?_ _)); exact BK266.out⟩, ⟨by (with_reducible repeat (first | refine blk_drewN ?_ _ | refine blk_drew ?_ | refine blk_alloc ?_ _)); exact BK267.out⟩, ⟨bw_⟩⟩
                    ·
                     replace c119 := Bool.eq_false_iff.mpr c119
                     subst c119
                     rw [if_neg (show ¬ (false = true) by decide)] at H
                     exact absurd ((Option.some.inj H).trans HRT.out) (by decide)
                 ·
                  rw [if_neg c115] at H
                  have c115b0 : (t303 == t305) = false := beq_eq_false_iff_ne.mpr c115
                  have c115b1 : (t303 != t305) = true := bne_iff_ne.mpr c115
                  exact absurd ((Option.some.inj H).trans HRT.out) (by decide)
                ·
                 replace c114 := Bool.eq_false_iff.mpr c114
                 subst c114
                 rw [if_neg (show ¬ (false = true) by decide)] at H
                 exact absurd ((Option.some.inj H).trans HRT.out) (by decide)
               ·
                replace c113 := Bool.eq_false_iff.mpr c113
                subst c113
                rw [if_neg (show ¬ (false = true) by decide)] at H
                exact absurd ((Option.some.inj H).trans HRT.out) (by decide)
              ·
               rw [if_neg c110] at H
               exact absurd H (by simp)
             ·
              rw [if_neg c109] at H
              exact absurd H (by simp)
            ·
             rw [if_neg c108] at H
             have c108b0 : decide (x269_3 < (t268.length : Int)) = false := decide_eq_false c108
             clear c108
             have H' := Aside0.mk H
             clear H
             go_wp2
             go_meet
             case rel => exact ⟨_, H', ⟨by have := HJ19.out; have := HJ90.out; have := HK3.out; first | omega | exact Nat.le_refl _⟩, ⟨by (with_reducible repeat (first | apply Kd.R_alloc | apply Kd.R_drewN | apply Kd.R_drew)); exact Kd.R_mono HO_27.out (fun _ hk => trivial)⟩, ⟨by (with_reducible repeat (first | refine blk_drewN ?_ _ | refine blk_drew ?_ | refine blk_alloc ?_ _)); exact BK266.out⟩, ⟨by (with_reducible repeat (first | refine blk_drewN ?_ _ | refine blk_drew ?_ | refine blk_alloc ?_ _)); exact BK267.out⟩, ⟨bw_⟩⟩
      ·
       replace c90 := Bool.eq_false_iff.mpr c90
       subst c90
       rw [if_neg (show ¬ (false = true) by decide)] at H
       have H' := Aside0.mk H
       clear H
       go_wp2
       go_meet
       case rel => exact ⟨_, H', ⟨by have := HJ19.out; first | omega | exact Nat.le_refl _⟩, ⟨by (with_reducible repeat (first | apply Kd.R_alloc | apply Kd.R_drewN | apply Kd.R_drew)); exact Kd.R_mono HO_27.out (fun _ hk => trivial)⟩, ⟨by (with_reducible repeat (first | refine blk_drewN ?_ _ | refine blk_drew ?_ | refine blk_alloc ?_ _)); exact BK266.out⟩, ⟨by (with_reducible repeat (first | refine blk_drewN ?_ _ | refine blk_drew ?_ | refine blk_alloc ?_ _)); exact BK267.out⟩, ⟨bw_⟩⟩
     case rest => as_aux_lemma =>
      clear HC89
      (try clear c5); (try clear c7); (try clear c7b0); (try clear c7b1); (try clear c88); (try clear hcz24_0); (try clear hcz24_1); (try clear hcz25_0); (try clear hcz25_1); (try clear hcz27_0); (try clear hcz27_1); (try clear hcz28_0); (try clear hcz28_1); (try clear hcz30_0); (try clear hcz30_1); (try clear hcz31_0); (try clear hcz31_1); (try clear hcz33_0); (try clear hcz33_1); (try clear hcz34_0); (try clear hcz34_1); (try clear hcz36_0); (try clear hcz36_1); (try clear hcz37_0); (try clear hcz37_1); (try clear hcz39_0); (try clear hcz39_1); (try clear hcz40_0); (try clear hcz40_1); (try clear hcz42_0); (try clear hcz42_1); (try clear hcz43_0); (try clear hcz43_1); (try clear hcz45_0); (try clear hcz45_1); (try clear hcz46_0); (try clear hcz46_1); (try clear hcz48_0); (try clear hcz48_1); (try clear hcz49_0); (try clear hcz49_1); (try clear hcz51_0); (try clear hcz51_1); (try clear hcz52_0); (try clear hcz52_1); (try clear hfz24_0); (try clear hfz24_1); (try clear hfz25_0); (try clear hfz25_1); (try clear hfz27_0); (try clear hfz27_1); (try clear hfz28_0); (try clear hfz28_1); (try clear hfz30_0); (try clear hfz30_1); (try clear hfz31_0); (try clear hfz31_1); (try clear hfz33_0); (try clear hfz33_1); (try clear hfz34_0); (try clear hfz34_1); (try clear hfz36_0); (try clear hfz36_1); (try clear hfz37_0); (try clear hfz37_1); (try clear hfz39_0); (try clear hfz39_1); (try clear hfz40_0); (try clear hfz40_1); (try clear hfz42_0); (try clear hfz42_1); (try clear hfz43_0); (try clear hfz43_1); (try clear hfz45_0); (try clear hfz45_1); (try clear hfz46_0); (try clear hfz46_1); (try clear hfz48_0); (try clear hfz48_1); (try clear hfz49_0); (try clear hfz49_1); (try clear hfz51_0); (try clear hfz51_1); (try clear hfz52_0); (try clear hfz52_1)
      obtain ⟨kq, HA, HJ88, HO_27, BK266, BK267, HB⟩ := hcut
      cases kq with
      | zero => exact absurd HA.out (by simp [laws_FnRunnersMeetOfAll.j3])
      | succ kj88 =>
       have H := HA.out
       clear HA
       simp only [laws_FnRunnersMeetOfAll.j3] at H
       have HC126 := Aside0.mk H
       clear H
       go_upto_region 26 with (fail)
       go_cut [335] from 314 to 335 (fun v335 wc => ∃ (kq : Nat) (x335_125 : Bool), v335 = .bool x335_125 ∧ Aside0 (laws_FnRunnersMeetOfAll.j4 kq a0 a3 a4 l5 t276 t286 t289 t294 t295 x335_125 a1_0 a1_1 a2_0 a2_1 = some r) ∧ Aside0 (kq ≤ kj88) ∧ Aside0 (Kd.R (Kd.int .i64) 3 wc w.heap.size (fun _ => True) v287 t286) ∧ Aside0 (wc.heap[gb266]? = some (.cells #[.int .i64 a1_0, .int .i64 a1_1] 45 (0, 0))) ∧ Aside0 (wc.heap[gb267]? = some (.cells #[.int .i64 a2_0, .int .i64 a2_1] 45 (0, 0))) ∧ Aside0 (Below w.heap.size w wc))
       case first => as_aux_lemma =>
        have H := HC126.out
        clear HC126
        by_cases c127 : t289 = true
        ·
         subst c127
         rw [if_pos rfl] at H
         replace H := Option.bind_eq_some_iff.mp H
         obtain ⟨t308, A1280, H⟩ := H
         (try dsimp only at H)
         have A128 := Aside0.mk A1280
         clear A1280
         by_cases c129 : t308 = true
         ·
          subst c129
          rw [if_pos rfl] at H
          by_cases c130 : ((decide ((t286.length : Int) > 0)) != t282) = true
          ·
           rw [if_pos c130] at H
           have c130b0 : ((decide ((t286.length : Int) > 0)) != t282) = true := c130
           (try (have c130b1 : decide ((decide ((t286.length : Int) > 0)) = t282) = false := by simpa using c130))
           (try (have c130b2 : ((decide ((t286.length : Int) > 0)) == t282) = false := by simpa using c130))
           (try (have c130b3 : ¬ ((decide ((t286.length : Int) > 0)) = t282) := by simpa using c130))
           clear c130
           (first | rw [c130b0] | (simp only [i64_w, i32_w]; rw [c130b0]) | skip)
           exact absurd (H.trans (congrArg some HRT.out)) (by cases kj88 <;> simp [laws_FnRunnersMeetOfAll.j4])
          ·
           rw [if_neg c130] at H
           have c130b0 : ((decide ((t286.length : Int) > 0)) != t282) = false := by simpa using c130
           (try (have c130b1 : decide ((decide ((t286.length : Int) > 0)) = t282) = true := by simpa using c130))
           (try (have c130b2 : ((decide ((t286.length : Int) > 0)) == t282) = true := by simpa using c130))
           clear c130
           (first | rw [c130b0] | (simp only [i64_w, i32_w]; rw [c130b0]) | skip)
           by_cases c131 : t282 = true
           ·
            subst c131
            have q0 : 0 < t286.length := by
              rcases Nat.eq_zero_or_pos t286.length with z | z
              · rw [z] at c130b0; exact absurd c130b0 (by decide)
              · exact z
            have q1 : decide (0 < t286.length) = true := decide_eq_true q0
            have q2 : decide (0 < (t286.length : Int)) = true := decide_eq_true (by omega)
            clear c130b0
            (try clear c130b1)
            (try clear c130b2)
            clear q0
            rw [if_pos rfl] at H
            replace H := Option.bind_eq_some_iff.mp H
            obtain ⟨t309, A1320, H⟩ := H
            (try dsimp only at H)
            have A132 := Aside0.mk A1320
            clear A1320
            have H' := Aside0.mk H
            clear H
            obtain ⟨Ao133, co133, eo133⟩ := Kd.R_slice HO_27.out
            subst eo133
            go_wp2_with (first | (go_at_call 33; (with_reducible refine (laws_qRises.calls kj88 _ _ t286 true _ ?side1 ?side2 A128.out).mono ?_); (case side1 => repeat (first | exact (Kd.R_reads' HO_27.out).2.2 | (with_reducible refine Kd.C_alloc ?_ _) | (with_reducible refine Kd.C_drewN ?_ _) | (with_reducible refine Kd.C_drew ?_))); (case side2 => exact (Kd.R_reads' HO_27.out).2.1); rintro e w' ⟨rfl, ⟨nd, rfl⟩⟩) | (go_at_call 35; (with_reducible refine (laws_qHas.calls kj88 _ _ t286 t281 t309 _ ?side1 ?side2 A132.out).mono ?_); (case side1 => repeat (first | exact (Kd.R_reads' HO_27.out).2.2 | (with_reducible refine Kd.C_alloc ?_ _) | (with_reducible refine Kd.C_drewN ?_ _) | (with_reducible refine Kd.C_drew ?_))); (case side2 => exact (Kd.R_reads' HO_27.out).2.1); rintro e w' ⟨rfl, ⟨nd, rfl⟩⟩))
            go_meet
            case rel => exact ⟨_, (!t309), (by first | rfl | (simp; done) | (simp [*]; done)), H', ⟨by have := HJ19.out; have := HJ88.out; first | omega | exact Nat.le_refl _⟩, ⟨by (with_reducible repeat (first | apply Kd.R_alloc | apply Kd.R_drewN | apply Kd.R_drew)); exact HO_27.out⟩, ⟨by (with_reducible repeat (first | refine blk_drewN ?_ _ | refine blk_drew ?_ | refine blk_alloc ?_ _)); exact BK266.out⟩, ⟨by (with_reducible repeat (first | refine blk_drewN ?_ _ | refine blk_drew ?_ | refine blk_alloc ?_ _)); exact BK267.out⟩, ⟨bw_⟩⟩
           ·
            replace c131 := Bool.eq_false_iff.mpr c131
            subst c131
            have q0 : ¬ 0 < t286.length := by
              intro z
              have z2 : decide ((t286.length : Int) > 0) = true := decide_eq_true (by omega)
              rw [z2] at c130b0
              exact absurd c130b0 (by decide)
            have q1 : decide (0 < t286.length) = false := decide_eq_false q0
            have q2 : decide (0 < (t286.length : Int)) = false := decide_eq_false (by omega)
            clear c130b0
            (try clear c130b1)
            (try clear c130b2)
            clear q0
            rw [if_neg (show ¬ (false = true) by decide)] at H
            have H' := Aside0.mk H
            clear H
            obtain ⟨Ao134, co134, eo134⟩ := Kd.R_slice HO_27.out
            subst eo134
            go_wp2_with (first | (go_at_call 33; (with_reducible refine (laws_qRises.calls kj88 _ _ t286 true _ ?side1 ?side2 A128.out).mono ?_); (case side1 => repeat (first | exact (Kd.R_reads' HO_27.out).2.2 | (with_reducible refine Kd.C_alloc ?_ _) | (with_reducible refine Kd.C_drewN ?_ _) | (with_reducible refine Kd.C_drew ?_))); (case side2 => exact (Kd.R_reads' HO_27.out).2.1); rintro e w' ⟨rfl, ⟨nd, rfl⟩⟩))
            go_meet
            case rel => exact ⟨_, (false), (by first | rfl | (simp; done) | (simp [*]; done)), H', ⟨by have := HJ19.out; have := HJ88.out; first | omega | exact Nat.le_refl _⟩, ⟨by (with_reducible repeat (first | apply Kd.R_alloc | apply Kd.R_drewN | apply Kd.R_drew)); exact HO_27.out⟩, ⟨by (with_reducible repeat (first | refine blk_drewN ?_ _ | refine blk_drew ?_ | refine blk_alloc ?_ _)); exact BK266.out⟩, ⟨by (with_reducible repeat (first | refine blk_drewN ?_ _ | refine blk_drew ?_ | refine blk_alloc ?_ _)); exact BK267.out⟩, ⟨bw_⟩⟩
         ·
          replace c129 := Bool.eq_false_iff.mpr c129
          subst c129
          rw [if_neg (show ¬ (false = true) by decide)] at H
          exact absurd (H.trans (congrArg some HRT.out)) (by cases kj88 <;> simp [laws_FnRunnersMeetOfAll.j4])
        ·
         replace c127 := Bool.eq_false_iff.mpr c127
         subst c127
         rw [if_neg (show ¬ (false = true) by decide)] at H
         have H' := Aside0.mk H
         clear H
         go_wp2
         go_meet
         case rel => exact ⟨_, (false), (by first | rfl | (simp; done) | (simp [*]; done)), H', ⟨by have := HJ19.out; have := HJ88.out; first | omega | exact Nat.le_refl _⟩, ⟨by (with_reducible repeat (first | apply Kd.R_alloc | apply Kd.R_drewN | apply Kd.R_drew)); exact HO_27.out⟩, ⟨by (with_reducible repeat (first | refine blk_drewN ?_ _ | refine blk_drew ?_ | refine blk_alloc ?_ _)); exact BK266.out⟩, ⟨by (with_reducible repeat (first | refine blk_drewN ?_ _ | refine blk_drew ?_ | refine blk_alloc ?_ _)); exact BK267.out⟩, ⟨bw_⟩⟩
       case rest => as_aux_lemma =>
        clear HC126
        (try clear c5); (try clear c7); (try clear c7b0); (try clear c7b1); (try clear c88); (try clear hcz24_0); (try clear hcz24_1); (try clear hcz25_0); (try clear hcz25_1); (try clear hcz27_0); (try clear hcz27_1); (try clear hcz28_0); (try clear hcz28_1); (try clear hcz30_0); (try clear hcz30_1); (try clear hcz31_0); (try clear hcz31_1); (try clear hcz33_0); (try clear hcz33_1); (try clear hcz34_0); (try clear hcz34_1); (try clear hcz36_0); (try clear hcz36_1); (try clear hcz37_0); (try clear hcz37_1); (try clear hcz39_0); (try clear hcz39_1); (try clear hcz40_0); (try clear hcz40_1); (try clear hcz42_0); (try clear hcz42_1); (try clear hcz43_0); (try clear hcz43_1); (try clear hcz45_0); (try clear hcz45_1); (try clear hcz46_0); (try clear hcz46_1); (try clear hcz48_0); (try clear hcz48_1); (try clear hcz49_0); (try clear hcz49_1); (try clear hcz51_0); (try clear hcz51_1); (try clear hcz52_0); (try clear hcz52_1); (try clear hfz24_0); (try clear hfz24_1); (try clear hfz25_0); (try clear hfz25_1); (try clear hfz27_0); (try clear hfz27_1); (try clear hfz28_0); (try clear hfz28_1); (try clear hfz30_0); (try clear hfz30_1); (try clear hfz31_0); (try clear hfz31_1); (try clear hfz33_0); (try clear hfz33_1); (try clear hfz34_0); (try clear hfz34_1); (try clear hfz36_0); (try clear hfz36_1); (try clear hfz37_0); (try clear hfz37_1); (try clear hfz39_0); (try clear hfz39_1); (try clear hfz40_0); (try clear hfz40_1); (try clear hfz42_0); (try clear hfz42_1); (try clear hfz43_0); (try clear hfz43_1); (try clear hfz45_0); (try clear hfz45_1); (try clear hfz46_0); (try clear hfz46_1); (try clear hfz48_0); (try clear hfz48_1); (try clear hfz49_0); (try clear hfz49_1); (try clear hfz51_0); (try clear hfz51_1); (try clear hfz52_0); (try clear hfz52_1)
        obtain ⟨kq, x335_125, rfl, HA, HJ125, HO_27, BK266, BK267, HB⟩ := hcut
        cases kq with
        | zero => exact absurd HA.out (by simp [laws_FnRunnersMeetOfAll.j4])
        | succ kj125 =>
         have H := HA.out
         clear HA
         simp only [laws_FnRunnersMeetOfAll.j4] at H
         by_cases c135 : x335_125 = true
         ·
          subst c135
          rw [if_pos rfl] at H
          exact absurd ((Option.some.inj H).trans HRT.out) (by decide)
         ·
          replace c135 := Bool.eq_false_iff.mpr c135
          subst c135
          rw [if_neg (show ¬ (false = true) by decide)] at H
          have HC136 := Aside0.mk H
          clear H
          go_upto_if 336 with (fail)
          go_cut [] from 337 to 417 (fun wc => ∃ (kq : Nat), Aside0 (laws_FnRunnersMeetOfAll.j8 kq a0 a3 a4 l5 t276 t294 t295 a1_0 a1_1 a2_0 a2_1 = some r) ∧ Aside0 (kq ≤ kj125) ∧ Aside0 (wc.heap[gb266]? = some (.cells #[.int .i64 a1_0, .int .i64 a1_1] 45 (0, 0))) ∧ Aside0 (wc.heap[gb267]? = some (.cells #[.int .i64 a2_0, .int .i64 a2_1] 45 (0, 0))) ∧ Aside0 (Below w.heap.size w wc))
          case first => as_aux_lemma =>
           have H := HC136.out
           clear HC136
           by_cases c137 : t289 = true
           ·
            subst c137
            rw [if_pos rfl] at H
            obtain ⟨y310, hy310⟩ : ∃ y_ : List (S45), y_ = (([(⟨a1_0, a1_1⟩ : S45), (⟨a2_0, a2_1⟩ : S45)] : List (S45))) := ⟨_, rfl⟩
            replace H : ((impl_RunPeriod.f kj125 a0 y310).bind fun bt313 => (if bt313.2 = true then (laws_FnRunnersMeetOfAll.j5 kj125 a0 a3 a4 l5 t276 t286 t294 t295 bt313.1 (decide (bt313.1 > a0)) a1_0 a1_1 a2_0 a2_1) else (laws_FnRunnersMeetOfAll.j5 kj125 a0 a3 a4 l5 t276 t286 t294 t295 bt313.1 true a1_0 a1_1 a2_0 a2_1))) = some r := by first | (rw [hy310]; with_reducible exact H) | (have H2_ := (Option.bind_some _ _).symm.trans H; rw [hy310]; with_reducible exact H2_) | (have H2_ := (Option.bind_some _ _).symm.trans H; with_reducible exact H2_) | with_reducible exact H | (rw [hy310]; exact H) | exact H
            have Ny310 := Aside0.mk hy310
            clear hy310
            replace H := Option.bind_eq_some_iff.mp H
            obtain ⟨⟨t313, t314⟩, A1380, H⟩ := H
            (try dsimp only at H)
            have A138 := Aside0.mk A1380
            clear A1380
            have HC139 := Aside0.mk H
            clear H
            have hnb140 := NB266_267.out
            have hnc140 := NB267_266.out
            have hcz141_0 : wc.cell? ⟨gb266, 0, none⟩ = some (.int .i64 a1_0) := (blk_cell BK266.out 0).trans rfl
            have hcz141_1 : wc.cell? ⟨gb266, 1, none⟩ = some (.int .i64 a1_1) := (blk_cell BK266.out 1).trans rfl
            have hfz141_0 := blk_frozen BK266.out 0
            have hfz141_1 := blk_frozen BK266.out 1
            have hcz142_0 : wc.cell? ⟨gb267, 0, none⟩ = some (.int .i64 a2_0) := (blk_cell BK267.out 0).trans rfl
            have hcz142_1 : wc.cell? ⟨gb267, 1, none⟩ = some (.int .i64 a2_1) := (blk_cell BK267.out 1).trans rfl
            have hfz142_0 := blk_frozen BK267.out 0
            have hfz142_1 := blk_frozen BK267.out 1
            go_upto_region 30 with (first | ((with_reducible refine gate_dst (N := 341) rfl ?_); (try (refine gate_guard (by rfl) ?_; dsimp only)); refine Kd.R_lit k45 _ 45 ?hg (N := 341) ?hd (xs := ([(⟨a1_0, a1_1⟩ : S45), (⟨a2_0, a2_1⟩ : S45)] : List (S45))) (inner := [.int .i64 a1_0, .int .i64 a1_1, .int .i64 a2_0, .int .i64 a2_1]) (ok := fun _ => True) (okp := fun _ => True) ?hr ?hp (fun _ hk => hk) trivial (Below.refl _ _) (Nat.le_refl _) (by simp) ?_; (case hd => rfl); (case hg => rfl); (case hr => first | (go_simp; done) | (go_simp; rfl)); (case hp => exact (Reps.c2 (show Kd.M k45 _ _ _ (⟨a1_0, a1_1⟩ : S45) [.int .i64 a1_0, .int .i64 a1_1] from (k45_mkM _ _ _ (⟨a1_0, a1_1⟩ : S45) )) (Reps.c2 (show Kd.M k45 _ _ _ (⟨a2_0, a2_1⟩ : S45) [.int .i64 a2_0, .int .i64 a2_1] from (k45_mkM _ _ _ (⟨a2_0, a2_1⟩ : S45) )) (Reps.none _ _)))); intro v311 w143 ho144 hb hg_ hnew_; clear hg_ hnew_; (first | rw [← Ny310.out] at ho144 | (simp only [Int.reduceToNat] at ho144; rw [← Ny310.out] at ho144)); have n0_ := Aside0.mk (Kd.R_below (by (with_reducible repeat (first | apply Kd.R_alloc | apply Kd.R_drewN | apply Kd.R_drew)); exact HO_27.out) hb); have n1_ := Aside0.mk (Kd.R_lower (Kd.R_newB (Kd.R_newB ho144 (g := gb266) (o := .cells #[.int .i64 a1_0, .int .i64 a1_1] 45 (0, 0)) bk_) (g := gb267) (o := .cells #[.int .i64 a2_0, .int .i64 a2_1] 45 (0, 0)) bk_) (below_size bw_)); have n2_ := Aside0.mk (blk_below (g := gb266) (o := .cells #[.int .i64 a1_0, .int .i64 a1_1] 45 (0, 0)) bk_ hb); have n3_ := Aside0.mk (blk_below (g := gb267) (o := .cells #[.int .i64 a2_0, .int .i64 a2_1] 45 (0, 0)) bk_ hb); have n4_ := Aside0.mk (below_step bw_ hb); clear HO_27; clear BK266; clear BK267; clear HB; have HO_27 := n0_; have HO312 := n1_; have BK266 := n2_; have BK267 := n3_; have HB := n4_; clear n0_ n1_ n2_ n3_ n4_; clear hb ho144; obtain ⟨Ao145, co145, eo145⟩ := Kd.R_slice HO312.out; subst eo145) | ((with_reducible refine gate_callee (f := 36) rfl ?_); refine goesL_ (some 342) rfl rfl Try.func36 (by kernel_rfl) rfl #[.int .i64 a0, .slice Ao145 y310.length co145] rfl (by (try simp only [List.map_toArray, List.map_cons, List.map_nil]); first | done | rfl | (simp only [List.length_drop, List.length_take]; rfl)) ?_; (with_reducible refine (impl_RunPeriod.calls kj125 a0 _ _ y310 t313 t314 _ ?side1 ?side2 A138.out).mono ?_); (case side1 => repeat (first | exact (Kd.R_reads' HO312.out).2.2 | (with_reducible refine Kd.C_alloc ?_ _) | (with_reducible refine Kd.C_drewN ?_ _) | (with_reducible refine Kd.C_drew ?_))); (case side2 => exact (Kd.R_reads' HO312.out).2.1); rintro e w146 ⟨rfl, hb⟩; refine ⟨_, rfl, ?_⟩; have n0_ := Aside0.mk (Kd.R_below (by (with_reducible repeat (first | apply Kd.R_alloc | apply Kd.R_drewN | apply Kd.R_drew)); exact HO_27.out) hb); have n1_ := Aside0.mk (Kd.R_below (by (with_reducible repeat (first | apply Kd.R_alloc | apply Kd.R_drewN | apply Kd.R_drew)); exact HO312.out) hb); have n2_ := Aside0.mk (blk_below (g := gb266) (o := .cells #[.int .i64 a1_0, .int .i64 a1_1] 45 (0, 0)) bk_ hb); have n3_ := Aside0.mk (blk_below (g := gb267) (o := .cells #[.int .i64 a2_0, .int .i64 a2_1] 45 (0, 0)) bk_ hb); have n4_ := Aside0.mk (below_step bw_ hb); clear HO_27; clear HO312; clear BK266; clear BK267; clear HB; have HO_27 := n0_; have HO312 := n1_; have BK266 := n2_; have BK267 := n3_; have HB := n4_; clear n0_ n1_ n2_ n3_ n4_; (try clear hb); (try clear hb2); (try clear hk); (try clear hi)))
            (try simp only [Act.put, List.setIfInBounds_toArray, List.set_cons_zero, List.set_cons_succ])
            go_cut [351] from 345 to 351 (fun v351 wc => ∃ (kq : Nat) (x351_138 : Bool), v351 = .bool x351_138 ∧ Aside0 (laws_FnRunnersMeetOfAll.j5 kq a0 a3 a4 l5 t276 t286 t294 t295 t313 x351_138 a1_0 a1_1 a2_0 a2_1 = some r) ∧ Aside0 (kq ≤ kj125) ∧ Aside0 (Kd.R (Kd.int .i64) 3 wc w.heap.size (fun _ => True) v287 t286) ∧ Aside0 (wc.heap[gb266]? = some (.cells #[.int .i64 a1_0, .int .i64 a1_1] 45 (0, 0))) ∧ Aside0 (wc.heap[gb267]? = some (.cells #[.int .i64 a2_0, .int .i64 a2_1] 45 (0, 0))) ∧ Aside0 (Below w.heap.size w wc))
            case first => as_aux_lemma =>
             have H := HC139.out
             clear HC139
             by_cases c147 : t314 = true
             ·
              subst c147
              rw [if_pos rfl] at H
              have H' := Aside0.mk H
              clear H
              go_wp2
              go_meet
              case rel => exact ⟨_, (decide (t313 > a0)), (by first | rfl | (simp; done) | (simp [*]; done)), H', ⟨by have := HJ19.out; have := HJ88.out; have := HJ125.out; first | omega | exact Nat.le_refl _⟩, ⟨by (with_reducible repeat (first | apply Kd.R_alloc | apply Kd.R_drewN | apply Kd.R_drew)); exact HO_27.out⟩, ⟨by (with_reducible repeat (first | refine blk_drewN ?_ _ | refine blk_drew ?_ | refine blk_alloc ?_ _)); exact BK266.out⟩, ⟨by (with_reducible repeat (first | refine blk_drewN ?_ _ | refine blk_drew ?_ | refine blk_alloc ?_ _)); exact BK267.out⟩, ⟨bw_⟩⟩
             ·
              replace c147 := Bool.eq_false_iff.mpr c147
              subst c147
              rw [if_neg (show ¬ (false = true) by decide)] at H
              exact absurd (H.trans (congrArg some HRT.out)) (by cases kj125 <;> simp [laws_FnRunnersMeetOfAll.j5])
            case rest => as_aux_lemma =>
             clear HC139
             (try clear c2); (try clear c5); (try clear c7); (try clear c7b0); (try clear c7b1); (try clear c88); (try clear c135); (try clear c137); (try clear hcz141_0); (try clear hcz141_1); (try clear hcz142_0); (try clear hcz142_1); (try clear hcz24_0); (try clear hcz24_1); (try clear hcz25_0); (try clear hcz25_1); (try clear hcz27_0); (try clear hcz27_1); (try clear hcz28_0); (try clear hcz28_1); (try clear hcz30_0); (try clear hcz30_1); (try clear hcz31_0); (try clear hcz31_1); (try clear hcz33_0); (try clear hcz33_1); (try clear hcz34_0); (try clear hcz34_1); (try clear hcz36_0); (try clear hcz36_1); (try clear hcz37_0); (try clear hcz37_1); (try clear hcz39_0); (try clear hcz39_1); (try clear hcz40_0); (try clear hcz40_1); (try clear hcz42_0); (try clear hcz42_1); (try clear hcz43_0); (try clear hcz43_1); (try clear hcz45_0); (try clear hcz45_1); (try clear hcz46_0); (try clear hcz46_1); (try clear hcz48_0); (try clear hcz48_1); (try clear hcz49_0); (try clear hcz49_1); (try clear hcz51_0); (try clear hcz51_1); (try clear hcz52_0); (try clear hcz52_1); (try clear hfz141_0); (try clear hfz141_1); (try clear hfz142_0); (try clear hfz142_1); (try clear hfz24_0); (try clear hfz24_1); (try clear hfz25_0); (try clear hfz25_1); (try clear hfz27_0); (try clear hfz27_1); (try clear hfz28_0); (try clear hfz28_1); (try clear hfz30_0); (try clear hfz30_1); (try clear hfz31_0); (try clear hfz31_1); (try clear hfz33_0); (try clear hfz33_1); (try clear hfz34_0); (try clear hfz34_1); (try clear hfz36_0); (try clear hfz36_1); (try clear hfz37_0); (try clear hfz37_1); (try clear hfz39_0); (try clear hfz39_1); (try clear hfz40_0); (try clear hfz40_1); (try clear hfz42_0); (try clear hfz42_1); (try clear hfz43_0); (try clear hfz43_1); (try clear hfz45_0); (try clear hfz45_1); (try clear hfz46_0); (try clear hfz46_1); (try clear hfz48_0); (try clear hfz48_1); (try clear hfz49_0); (try clear hfz49_1); (try clear hfz51_0); (try clear hfz51_1); (try clear hfz52_0); (try clear hfz52_1)
             obtain ⟨kq, x351_138, rfl, HA, HJ138, HO_27, BK266, BK267, HB⟩ := hcut
             cases kq with
             | zero => exact absurd HA.out (by simp [laws_FnRunnersMeetOfAll.j5])
             | succ kj138 =>
              have H := HA.out
              clear HA
              simp only [laws_FnRunnersMeetOfAll.j5] at H
              by_cases c148 : x351_138 = true
              ·
               subst c148
               rw [if_pos rfl] at H
               exact absurd ((Option.some.inj H).trans HRT.out) (by decide)
              ·
               replace c148 := Bool.eq_false_iff.mpr c148
               subst c148
               rw [if_neg (show ¬ (false = true) by decide)] at H
               by_cases c149 : 0 ≤ a0
               ·
                rw [if_pos c149] at H
                have c149b0 := eq_true c149
                have c149b1 : decide (0 ≤ a0) = true := decide_eq_true c149
                clear c149
                by_cases c150 : (a0 : Int).toNat ≤ 281474976710656
                ·
                 rw [if_pos c150] at H
                 have c150b0 := eq_true c150
                 have c150b1 : decide ((a0 : Int).toNat ≤ 281474976710656) = true := decide_eq_true c150
                 clear c150
                 obtain ⟨y315, hy315⟩ : ∃ y_ : List Bool, y_ = (List.replicate (a0 : Int).toNat false) := ⟨_, rfl⟩
                 replace H : (laws_FnRunnersMeetOfAll.l1 kj138 a0 a3 a4 l5 t276 t286 t294 t295 t313 y315 0 0 a1_0 a1_1 a2_0 a2_1) = some r := by first | (rw [hy315]; with_reducible exact H) | (have H2_ := (Option.bind_some _ _).symm.trans H; rw [hy315]; with_reducible exact H2_) | (have H2_ := (Option.bind_some _ _).symm.trans H; with_reducible exact H2_) | with_reducible exact H | (rw [hy315]; exact H) | exact H
                 have Ny315 := Aside0.mk hy315
                 clear hy315
                 have H' := Aside0.mk H
                 clear H
                 go_wp2_with (first | ((with_reducible refine gate_dst (N := 353) rfl ?_); (try (refine gate_guard (by rfl) ?_; dsimp only)); refine Kd.R_make Kd.bool _ 4 rfl (N := 353) rfl 56 _ _ rfl a0 rfl rfl Try.underlying56 (.bool false) 1 info4 rfl (by decide) (by omega) false (ok := fun _ => True) (okp := fun _ => True) rfl (fun _ hk => hk) trivial (of_decide_eq_true (by first | (with_reducible assumption) | assumption)) (Nat.le_trans (Nat.mul_le_mul_right _ (of_decide_eq_true (by first | (with_reducible assumption) | assumption) : a0.toNat ≤ 281474976710656)) (by omega)) (Below.refl _ _) (Nat.le_refl _) ?_; intro v316 w151 ho152 hb hg_ hnew_; clear hg_ hnew_; (first | rw [← Ny315.out] at ho152 | (simp only [Int.reduceToNat] at ho152; rw [← Ny315.out] at ho152)); have n0_ := Aside0.mk (Kd.R_below (by (with_reducible repeat (first | apply Kd.R_alloc | apply Kd.R_drewN | apply Kd.R_drew)); exact HO_27.out) hb); have n1_ := Aside0.mk (Kd.R_lower ho152 (below_size bw_)); have n2_ := Aside0.mk (blk_below (g := gb266) (o := .cells #[.int .i64 a1_0, .int .i64 a1_1] 45 (0, 0)) bk_ hb); have n3_ := Aside0.mk (blk_below (g := gb267) (o := .cells #[.int .i64 a2_0, .int .i64 a2_1] 45 (0, 0)) bk_ hb); have n4_ := Aside0.mk (below_step bw_ hb); clear HO_27; clear BK266; clear BK267; clear HB; have HO_27 := n0_; have HO317 := n1_; have BK266 := n2_; have BK267 := n3_; have HB := n4_; clear n0_ n1_ n2_ n3_ n4_; clear hb ho152))
                 go_loopg [44, 45] kj138 (fun kq v44 v45 w' => ∃ (x43_5 : List Bool) (x44_5 : Int) (x45_5 : Int), v44 = .int .i64 x44_5 ∧ v45 = .int .i64 x45_5 ∧ Aside0 (laws_FnRunnersMeetOfAll.l1 kq a0 a3 a4 l5 t276 t286 t294 t295 t313 x43_5 x44_5 x45_5 a1_0 a1_1 a2_0 a2_1 = some r) ∧ Aside0 (kq ≤ kj138) ∧ Aside0 (Kd.R (Kd.int .i64) 3 w' w.heap.size (fun _ => True) v287 t286) ∧ Aside0 (Kd.R Kd.bool 4 w' w.heap.size (fun _ => True) v316 x43_5) ∧ Aside0 (w'.heap[gb266]? = some (.cells #[.int .i64 a1_0, .int .i64 a1_1] 45 (0, 0))) ∧ Aside0 (w'.heap[gb267]? = some (.cells #[.int .i64 a2_0, .int .i64 a2_1] 45 (0, 0))) ∧ Aside0 (Below w.heap.size w w'))
                 case atStart => exact ⟨(y315), (0), (0), (by first | rfl | (simp; done) | (simp [*]; done)), (by first | rfl | (simp; done) | (simp [*]; done)), H', ⟨Nat.le_refl _⟩, ⟨by (with_reducible repeat (first | apply Kd.R_alloc | apply Kd.R_drewN | apply Kd.R_drew)); exact HO_27.out⟩, ⟨by (with_reducible repeat (first | apply Kd.R_alloc | apply Kd.R_drewN | apply Kd.R_drew)); exact HO317.out⟩, ⟨by (with_reducible repeat (first | refine blk_drewN ?_ _ | refine blk_drew ?_ | refine blk_alloc ?_ _)); exact BK266.out⟩, ⟨by (with_reducible repeat (first | refine blk_drewN ?_ _ | refine blk_drew ?_ | refine blk_alloc ?_ _)); exact BK267.out⟩, ⟨bw_⟩⟩
                 case round => as_aux_lemma =>
                  clear H'
                  (try clear c2); (try clear c5); (try clear c7); (try clear c7b0); (try clear c7b1); (try clear c88); (try clear c135); (try clear c137); (try clear c148); (try clear c149); (try clear c149b0); (try clear c149b1); (try clear c150); (try clear c150b0); (try clear c150b1); (try clear hcz141_0); (try clear hcz141_1); (try clear hcz142_0); (try clear hcz142_1); (try clear hcz24_0); (try clear hcz24_1); (try clear hcz25_0); (try clear hcz25_1); (try clear hcz27_0); (try clear hcz27_1); (try clear hcz28_0); (try clear hcz28_1); (try clear hcz30_0); (try clear hcz30_1); (try clear hcz31_0); (try clear hcz31_1); (try clear hcz33_0); (try clear hcz33_1); (try clear hcz34_0); (try clear hcz34_1); (try clear hcz36_0); (try clear hcz36_1); (try clear hcz37_0); (try clear hcz37_1); (try clear hcz39_0); (try clear hcz39_1); (try clear hcz40_0); (try clear hcz40_1); (try clear hcz42_0); (try clear hcz42_1); (try clear hcz43_0); (try clear hcz43_1); (try clear hcz45_0); (try clear hcz45_1); (try clear hcz46_0); (try clear hcz46_1); (try clear hcz48_0); (try clear hcz48_1); (try clear hcz49_0); (try clear hcz49_1); (try clear hcz51_0); (try clear hcz51_1); (try clear hcz52_0); (try clear hcz52_1); (try clear hfz141_0); (try clear hfz141_1); (try clear hfz142_0); (try clear hfz142_1); (try clear hfz24_0); (try clear hfz24_1); (try clear hfz25_0); (try clear hfz25_1); (try clear hfz27_0); (try clear hfz27_1); (try clear hfz28_0); (try clear hfz28_1); (try clear hfz30_0); (try clear hfz30_1); (try clear hfz31_0); (try clear hfz31_1); (try clear hfz33_0); (try clear hfz33_1); (try clear hfz34_0); (try clear hfz34_1); (try clear hfz36_0); (try clear hfz36_1); (try clear hfz37_0); (try clear hfz37_1); (try clear hfz39_0); (try clear hfz39_1); (try clear hfz40_0); (try clear hfz40_1); (try clear hfz42_0); (try clear hfz42_1); (try clear hfz43_0); (try clear hfz43_1); (try clear hfz45_0); (try clear hfz45_1); (try clear hfz46_0); (try clear hfz46_1); (try clear hfz48_0); (try clear hfz48_1); (try clear hfz49_0); (try clear hfz49_1); (try clear hfz51_0); (try clear hfz51_1); (try clear hfz52_0); (try clear hfz52_1)
                  obtain ⟨x43_5, x44_5, x45_5, rfl, rfl, HA, HK5, HO_27, HO_43, BK266, BK267, HB⟩ := hrel
                  cases gk with
                  | zero => exact absurd HA.out (by simp [laws_FnRunnersMeetOfAll.l1])
                  | succ k5 =>
                   have H := HA.out
                   clear HA
                   simp only [laws_FnRunnersMeetOfAll.l1] at H
                   by_cases c153 : x45_5 < t313
                   ·
                    rw [if_pos c153] at H
                    have c153b0 : decide (x45_5 < t313) = true := decide_eq_true c153
                    clear c153
                    replace H := Option.bind_eq_some_iff.mp H
                    obtain ⟨⟨t318, t319⟩, A1540, H⟩ := H
                    (try dsimp only at H)
                    have A154 := Aside0.mk A1540
                    clear A1540
                    replace H := Option.bind_eq_some_iff.mp H
                    obtain ⟨⟨t320, t321⟩, A1550, H⟩ := H
                    (try dsimp only at H)
                    have A155 := Aside0.mk A1550
                    clear A1550
                    have HC156 := Aside0.mk H
                    clear H
                    have hnb157 := NB266_267.out
                    have hnc157 := NB267_266.out
                    have hcz158_0 : wr.cell? ⟨gb266, 0, none⟩ = some (.int .i64 a1_0) := (blk_cell BK266.out 0).trans rfl
                    have hcz158_1 : wr.cell? ⟨gb266, 1, none⟩ = some (.int .i64 a1_1) := (blk_cell BK266.out 1).trans rfl
                    have hfz158_0 := blk_frozen BK266.out 0
                    have hfz158_1 := blk_frozen BK266.out 1
                    go_upto_region 39 with (first | ((with_reducible refine gate_callee (f := 34) rfl ?_); refine goesL_ (some 363) rfl rfl Try.func34 (by kernel_rfl) rfl #[.int .i64 a0, .agg #[.int .i64 a1_0, .int .i64 a1_1], .int .i64 x45_5] rfl (by (try simp only [List.map_toArray, List.map_cons, List.map_nil]); first | done | rfl | (simp only [List.length_drop, List.length_take]; rfl)) ?_; (with_reducible refine (impl_PlaceOnTrack.calls a0 a1_0 a1_1 x45_5 t318 t319 _ A154.out).mono ?_); rintro e w159 ⟨rfl, hb⟩; refine ⟨_, rfl, ?_⟩; have n0_ := Aside0.mk (Kd.R_below (by (with_reducible repeat (first | apply Kd.R_alloc | apply Kd.R_drewN | apply Kd.R_drew)); exact HO_27.out) hb); have n1_ := Aside0.mk (Kd.R_below (by (with_reducible repeat (first | apply Kd.R_alloc | apply Kd.R_drewN | apply Kd.R_drew)); exact HO_43.out) hb); have n2_ := Aside0.mk (blk_below (g := gb266) (o := .cells #[.int .i64 a1_0, .int .i64 a1_1] 45 (0, 0)) bk_ hb); have n3_ := Aside0.mk (blk_below (g := gb267) (o := .cells #[.int .i64 a2_0, .int .i64 a2_1] 45 (0, 0)) bk_ hb); have n4_ := Aside0.mk (below_step bw_ hb); clear HO_27; clear HO_43; clear BK266; clear BK267; clear HB; have HO_27 := n0_; have HO_43 := n1_; have BK266 := n2_; have BK267 := n3_; have HB := n4_; clear n0_ n1_ n2_ n3_ n4_; (try clear hb); (try clear hb2); (try clear hk); (try clear hi); have hcz160_0 : w159.cell? ⟨gb267, 0, none⟩ = some (.int .i64 a2_0) := (blk_cell BK267.out 0).trans rfl; have hcz160_1 : w159.cell? ⟨gb267, 1, none⟩ = some (.int .i64 a2_1) := (blk_cell BK267.out 1).trans rfl; have hfz160_0 := blk_frozen BK267.out 0; have hfz160_1 := blk_frozen BK267.out 1) | ((with_reducible refine gate_callee (f := 34) rfl ?_); refine goesL_ (some 370) rfl rfl Try.func34 (by kernel_rfl) rfl #[.int .i64 a0, .agg #[.int .i64 a2_0, .int .i64 a2_1], .int .i64 x45_5] rfl (by (try simp only [List.map_toArray, List.map_cons, List.map_nil]); first | done | rfl | (simp only [List.length_drop, List.length_take]; rfl)) ?_; (with_reducible refine (impl_PlaceOnTrack.calls a0 a2_0 a2_1 x45_5 t320 t321 _ A155.out).mono ?_); rintro e w161 ⟨rfl, hb⟩; refine ⟨_, rfl, ?_⟩; have n0_ := Aside0.mk (Kd.R_below (by (with_reducible repeat (first | apply Kd.R_alloc | apply Kd.R_drewN | apply Kd.R_drew)); exact HO_27.out) hb); have n1_ := Aside0.mk (Kd.R_below (by (with_reducible repeat (first | apply Kd.R_alloc | apply Kd.R_drewN | apply Kd.R_drew)); exact HO_43.out) hb); have n2_ := Aside0.mk (blk_below (g := gb266) (o := .cells #[.int .i64 a1_0, .int .i64 a1_1] 45 (0, 0)) bk_ hb); have n3_ := Aside0.mk (blk_below (g := gb267) (o := .cells #[.int .i64 a2_0, .int .i64 a2_1] 45 (0, 0)) bk_ hb); have n4_ := Aside0.mk (below_step bw_ hb); clear HO_27; clear HO_43; clear BK266; clear BK267; clear HB; have HO_27 := n0_; have HO_43 := n1_; have BK266 := n2_; have BK267 := n3_; have HB := n4_; clear n0_ n1_ n2_ n3_ n4_; (try clear hb); (try clear hb2); (try clear hk); (try clear hi)))
                    (try simp only [Act.put, List.setIfInBounds_toArray, List.set_cons_zero, List.set_cons_succ])
                    go_cut [398] from 373 to 398 (fun v398 wc => ∃ (kq : Nat) (x398_155 : Bool), v398 = .bool x398_155 ∧ Aside0 (laws_FnRunnersMeetOfAll.j7 kq a0 a3 a4 l5 t276 t286 t294 t295 t313 x43_5 x44_5 x45_5 t318 t320 x398_155 a1_0 a1_1 a2_0 a2_1 = some r) ∧ Aside0 (kq ≤ k5) ∧ Aside0 (Kd.R (Kd.int .i64) 3 wc w.heap.size (fun _ => True) v287 t286) ∧ Aside0 (Kd.R Kd.bool 4 wc w.heap.size (fun _ => True) v316 x43_5) ∧ Aside0 (wc.heap[gb266]? = some (.cells #[.int .i64 a1_0, .int .i64 a1_1] 45 (0, 0))) ∧ Aside0 (wc.heap[gb267]? = some (.cells #[.int .i64 a2_0, .int .i64 a2_1] 45 (0, 0))) ∧ Aside0 (Below w.heap.size w wc))
                    case first => as_aux_lemma =>
                     have H := HC156.out
                     clear HC156
                     by_cases c162 : t319 = true
                     ·
                      subst c162
                      rw [if_pos rfl] at H
                      by_cases c163 : t321 = true
                      ·
                       subst c163
                       rw [if_pos rfl] at H
                       by_cases c164 : t318 = t320
                       ·
                        rw [if_pos c164] at H
                        have c164b0 : (t318 == t320) = true := beq_iff_eq.mpr c164
                        have c164b1 : (t318 != t320) = false := bne_eq_false_iff_eq.mpr c164
                        clear c164
                        (first | rw [c164b0] | (simp only [i64_w, i32_w]; rw [c164b0]) | skip)
                        replace H := Option.bind_eq_some_iff.mp H
                        obtain ⟨t322, A1650, H⟩ := H
                        (try dsimp only at H)
                        have A165 := Aside0.mk A1650
                        clear A1650
                        by_cases c166 : t322 = true
                        ·
                         subst c166
                         rw [if_pos rfl] at H
                         by_cases c167 : t318 < 0
                         ·
                          rw [if_pos c167] at H
                          have c167b0 : decide (t318 < 0) = true := decide_eq_true c167
                          clear c167
                          exact absurd (H.trans (congrArg some HRT.out)) (by cases k5 <;> simp [laws_FnRunnersMeetOfAll.j7])
                         ·
                          rw [if_neg c167] at H
                          have c167b0 : decide (t318 < 0) = false := decide_eq_false c167
                          clear c167
                          have H' := Aside0.mk H
                          clear H
                          obtain ⟨Ao168, co168, eo168⟩ := Kd.R_slice HO_27.out
                          subst eo168
                          go_wp2_with (first | (go_at_call 35; (with_reducible refine (laws_qHas.calls k5 _ _ t286 t318 true _ ?side1 ?side2 A165.out).mono ?_); (case side1 => repeat (first | exact (Kd.R_reads' HO_27.out).2.2 | (with_reducible refine Kd.C_alloc ?_ _) | (with_reducible refine Kd.C_drewN ?_ _) | (with_reducible refine Kd.C_drew ?_))); (case side2 => exact (Kd.R_reads' HO_27.out).2.1); rintro e w' ⟨rfl, ⟨nd, rfl⟩⟩))
                          go_meet
                          case rel => exact ⟨_, (decide (t318 ≥ a0)), (by first | rfl | (simp; done) | (simp [*]; done)), H', ⟨by have := HJ19.out; have := HJ88.out; have := HJ125.out; have := HJ138.out; have := HK5.out; first | omega | exact Nat.le_refl _⟩, ⟨by (with_reducible repeat (first | apply Kd.R_alloc | apply Kd.R_drewN | apply Kd.R_drew)); exact HO_27.out⟩, ⟨by (with_reducible repeat (first | apply Kd.R_alloc | apply Kd.R_drewN | apply Kd.R_drew)); exact HO_43.out⟩, ⟨by (with_reducible repeat (first | refine blk_drewN ?_ _ | refine blk_drew ?_ | refine blk_alloc ?_ _)); exact BK266.out⟩, ⟨by (with_reducible repeat (first | refine blk_drewN ?_ _ | refine blk_drew ?_ | refine blk_alloc ?_ _)); exact BK267.out⟩, ⟨bw_⟩⟩
                        ·
                         replace c166 := Bool.eq_false_iff.mpr c166
                         subst c166
                         rw [if_neg (show ¬ (false = true) by decide)] at H
                         exact absurd (H.trans (congrArg some HRT.out)) (by cases k5 <;> simp [laws_FnRunnersMeetOfAll.j7])
                       ·
                        rw [if_neg c164] at H
                        have c164b0 : (t318 == t320) = false := beq_eq_false_iff_ne.mpr c164
                        have c164b1 : (t318 != t320) = true := bne_iff_ne.mpr c164
                        (first | rw [c164b0] | (simp only [i64_w, i32_w]; rw [c164b0]) | skip)
                        by_cases c169 : t318 < 0
                        ·
                         rw [if_pos c169] at H
                         have c169b0 : decide (t318 < 0) = true := decide_eq_true c169
                         clear c169
                         exact absurd (H.trans (congrArg some HRT.out)) (by cases k5 <;> simp [laws_FnRunnersMeetOfAll.j7])
                        ·
                         rw [if_neg c169] at H
                         have c169b0 : decide (t318 < 0) = false := decide_eq_false c169
                         clear c169
                         have H' := Aside0.mk H
                         clear H
                         go_wp2
                         go_meet
                         case rel => exact ⟨_, (decide (t318 ≥ a0)), (by first | rfl | (simp; done) | (simp [*]; done)), H', ⟨by have := HJ19.out; have := HJ88.out; have := HJ125.out; have := HJ138.out; have := HK5.out; first | omega | exact Nat.le_refl _⟩, ⟨by (with_reducible repeat (first | apply Kd.R_alloc | apply Kd.R_drewN | apply Kd.R_drew)); exact HO_27.out⟩, ⟨by (with_reducible repeat (first | apply Kd.R_alloc | apply Kd.R_drewN | apply Kd.R_drew)); exact HO_43.out⟩, ⟨by (with_reducible repeat (first | refine blk_drewN ?_ _ | refine blk_drew ?_ | refine blk_alloc ?_ _)); exact BK266.out⟩, ⟨by (with_reducible repeat (first | refine blk_drewN ?_ _ | refine blk_drew ?_ | refine blk_alloc ?_ _)); exact BK267.out⟩, ⟨bw_⟩⟩
                      ·
                       replace c163 := Bool.eq_false_iff.mpr c163
                       subst c163
                       rw [if_neg (show ¬ (false = true) by decide)] at H
                       exact absurd (H.trans (congrArg some HRT.out)) (by cases k5 <;> simp [laws_FnRunnersMeetOfAll.j7])
                     ·
                      replace c162 := Bool.eq_false_iff.mpr c162
                      subst c162
                      rw [if_neg (show ¬ (false = true) by decide)] at H
                      exact absurd (H.trans (congrArg some HRT.out)) (by cases k5 <;> simp [laws_FnRunnersMeetOfAll.j7])
                    case rest => as_aux_lemma =>
                     clear HC156
                     (try clear c2); (try clear c5); (try clear c7); (try clear c7b0); (try clear c7b1); (try clear c88); (try clear c135); (try clear c137); (try clear c148); (try clear c149); (try clear c149b0); (try clear c149b1); (try clear c150); (try clear c150b0); (try clear c150b1); (try clear c153); (try clear c153b0); (try clear hcz141_0); (try clear hcz141_1); (try clear hcz142_0); (try clear hcz142_1); (try clear hcz158_0); (try clear hcz158_1); (try clear hcz160_0); (try clear hcz160_1); (try clear hcz24_0); (try clear hcz24_1); (try clear hcz25_0); (try clear hcz25_1); (try clear hcz27_0); (try clear hcz27_1); (try clear hcz28_0); (try clear hcz28_1); (try clear hcz30_0); (try clear hcz30_1); (try clear hcz31_0); (try clear hcz31_1); (try clear hcz33_0); (try clear hcz33_1); (try clear hcz34_0); (try clear hcz34_1); (try clear hcz36_0); (try clear hcz36_1); (try clear hcz37_0); (try clear hcz37_1); (try clear hcz39_0); (try clear hcz39_1); (try clear hcz40_0); (try clear hcz40_1); (try clear hcz42_0); (try clear hcz42_1); (try clear hcz43_0); (try clear hcz43_1); (try clear hcz45_0); (try clear hcz45_1); (try clear hcz46_0); (try clear hcz46_1); (try clear hcz48_0); (try clear hcz48_1); (try clear hcz49_0); (try clear hcz49_1); (try clear hcz51_0); (try clear hcz51_1); (try clear hcz52_0); (try clear hcz52_1); (try clear hfz141_0); (try clear hfz141_1); (try clear hfz142_0); (try clear hfz142_1); (try clear hfz158_0); (try clear hfz158_1); (try clear hfz160_0); (try clear hfz160_1); (try clear hfz24_0); (try clear hfz24_1); (try clear hfz25_0); (try clear hfz25_1); (try clear hfz27_0); (try clear hfz27_1); (try clear hfz28_0); (try clear hfz28_1); (try clear hfz30_0); (try clear hfz30_1); (try clear hfz31_0); (try clear hfz31_1); (try clear hfz33_0); (try clear hfz33_1); (try clear hfz34_0); (try clear hfz34_1); (try clear hfz36_0); (try clear hfz36_1); (try clear hfz37_0); (try clear hfz37_1); (try clear hfz39_0); (try clear hfz39_1); (try clear hfz40_0); (try clear hfz40_1); (try clear hfz42_0); (try clear hfz42_1); (try clear hfz43_0); (try clear hfz43_1); (try clear hfz45_0); (try clear hfz45_1); (try clear hfz46_0); (try clear hfz46_1); (try clear hfz48_0); (try clear hfz48_1); (try clear hfz49_0); (try clear hfz49_1); (try clear hfz51_0); (try clear hfz51_1); (try clear hfz52_0); (try clear hfz52_1)
                     obtain ⟨kq, x398_155, rfl, HA, HJ155, HO_27, HO_43, BK266, BK267, HB⟩ := hcut
                     cases kq with
                     | zero => exact absurd HA.out (by simp [laws_FnRunnersMeetOfAll.j7])
                     | succ kj155 =>
                      have H := HA.out
                      clear HA
                      simp only [laws_FnRunnersMeetOfAll.j7] at H
                      by_cases c170 : x398_155 = true
                      ·
                       subst c170
                       rw [if_pos rfl] at H
                       exact absurd ((Option.some.inj H).trans HRT.out) (by decide)
                      ·
                       replace c170 := Bool.eq_false_iff.mpr c170
                       subst c170
                       rw [if_neg (show ¬ (false = true) by decide)] at H
                       by_cases c171 : t318 = t320
                       ·
                        rw [if_pos c171] at H
                        have c171b0 : (t318 == t320) = true := beq_iff_eq.mpr c171
                        have c171b1 : (t318 != t320) = false := bne_eq_false_iff_eq.mpr c171
                        clear c171
                        by_cases c172 : 0 ≤ t318
                        ·
                         rw [if_pos c172] at H
                         have c172b0 : decide (0 ≤ t318) = true := decide_eq_true c172
                         clear c172
                         by_cases c173 : t318 < (x43_5.length : Int)
                         ·
                          rw [if_pos c173] at H
                          have c173b0 : decide (t318 < (x43_5.length : Int)) = true := decide_eq_true c173
                          clear c173
                          obtain ⟨bq174, hbq174⟩ : ∃ b_ : Bool, b_ = (rdOf false x43_5 t318) := ⟨_, rfl⟩
                          replace H : (if bq174 = true then (laws_FnRunnersMeetOfAll.l1 kj155 a0 a3 a4 l5 t276 t286 t294 t295 t313 x43_5 x44_5 (wrap64 (x45_5 + 1)) a1_0 a1_1 a2_0 a2_1) else (laws_FnRunnersMeetOfAll.l1 kj155 a0 a3 a4 l5 t276 t286 t294 t295 t313 (x43_5.set (t318 : Int).toNat true) (wrap64 (x44_5 + 1)) (wrap64 (x45_5 + 1)) a1_0 a1_1 a2_0 a2_1)) = some r := by rw [← hbq174] at H; exact H
                          have Nbq174 := Aside0.mk hbq174
                          clear hbq174
                          by_cases c175 : bq174 = true
                          ·
                           subst c175
                           rw [if_pos rfl] at H
                           have H' := Aside0.mk H
                           clear H
                           obtain ⟨Ao176, co176, eo176⟩ := Kd.R_slice HO_43.out
                           subst eo176
                           have p323 : 0 ≤ (t318 : Int) := of_decide_eq_true (by first | (with_reducible assumption) | assumption)
                           have q323 : t318 < (x43_5.length : Int) := of_decide_eq_true (by first | (with_reducible assumption) | assumption)
                           obtain ⟨ad323, e323, hx323_0⟩ := Kd.at_bool (Kd.R_reads' HO_43.out).2.2 t318 p323 q323
                           (try rw [← Nbq174.out] at hx323_0)
                           cases e323
                           replace p323 := eq_true p323
                           replace q323 := eq_true q323
                           go_wp2
                           go_roundg kj155
                           case measure => have := HJ19.out; have := HJ88.out; have := HJ125.out; have := HJ138.out; have := HK5.out; have := HJ155.out; omega
                           case rel => exact ⟨(x43_5), (x44_5), (wrap64 (x45_5 + 1)), (by first | rfl | (simp; done) | (simp [*]; done)), (by first | rfl | (simp; done) | (simp [*]; done)), H', ⟨by have := HJ19.out; have := HJ88.out; have := HJ125.out; have := HJ138.out; have := HK5.out; have := HJ155.out; omega⟩, ⟨by (with_reducible repeat (first | apply Kd.R_alloc | apply Kd.R_drewN | apply Kd.R_drew)); exact HO_27.out⟩, ⟨by (with_reducible repeat (first | apply Kd.R_alloc | apply Kd.R_drewN | apply Kd.R_drew)); exact HO_43.out⟩, ⟨by (with_reducible repeat (first | refine blk_drewN ?_ _ | refine blk_drew ?_ | refine blk_alloc ?_ _)); exact BK266.out⟩, ⟨by (with_reducible repeat (first | refine blk_drewN ?_ _ | refine blk_drew ?_ | refine blk_alloc ?_ _)); exact BK267.out⟩, ⟨bw_⟩⟩
                          ·
                           replace c175 := Bool.eq_false_iff.mpr c175
                           subst c175
                           rw [if_neg (show ¬ (false = true) by decide)] at H
                           obtain ⟨y324, hy324⟩ : ∃ y_ : List Bool, y_ = (x43_5.set (t318 : Int).toNat true) := ⟨_, rfl⟩
                           replace H : (laws_FnRunnersMeetOfAll.l1 kj155 a0 a3 a4 l5 t276 t286 t294 t295 t313 y324 (wrap64 (x44_5 + 1)) (wrap64 (x45_5 + 1)) a1_0 a1_1 a2_0 a2_1) = some r := by first | (rw [hy324]; with_reducible exact H) | (have H2_ := (Option.bind_some _ _).symm.trans H; rw [hy324]; with_reducible exact H2_) | (have H2_ := (Option.bind_some _ _).symm.trans H; with_reducible exact H2_) | with_reducible exact H | (rw [hy324]; exact H) | exact H
                           have Ny324 := Aside0.mk hy324
                           clear hy324
                           have H' := Aside0.mk H
                           clear H
                           obtain ⟨Ao178, co178, eo178⟩ := Kd.R_slice HO_43.out
                           subst eo178
                           have p323 : 0 ≤ (t318 : Int) := of_decide_eq_true (by first | (with_reducible assumption) | assumption)
                           have q323 : t318 < (x43_5.length : Int) := of_decide_eq_true (by first | (with_reducible assumption) | assumption)
                           obtain ⟨ad323, e323, hx323_0⟩ := Kd.at_bool (Kd.R_reads' HO_43.out).2.2 t318 p323 q323
                           (try rw [← Nbq174.out] at hx323_0)
                           cases e323
                           replace p323 := eq_true p323
                           replace q323 := eq_true q323
                           have p177 : 0 ≤ (t318 : Int) := of_decide_eq_true (by first | (with_reducible assumption) | assumption)
                           have q177 : (t318 : Int) < ((x43_5.length : Int) : Int) := of_decide_eq_true (by first | (with_reducible assumption) | assumption)
                           obtain ⟨go177, co177, eo177, gb177, gl177, cl177, HG177⟩ := Kd.R_form HO_43.out (by omega)
                           (first | cases eo177 | (injection eo177 with ea_ en_ ec_; (first | subst ea_ | (injection ea_ with ea_; subst ea_)); subst ec_; clear en_))
                           have GB177 := Aside0.mk gb177
                           have GG177 := Aside0.mk HG177
                           clear gb177 gl177 HG177
                           (first | simp only [add_plain] at hx323_0 | skip)
                           obtain ⟨hx177_0, hf177_0⟩ := Kd.R_celln false HO_43.out (t318 : Int) p177 q177
                           replace p177 := eq_true p177
                           replace q177 := eq_true q177
                           have HP179 := Kd.R_putg HO_43.out (t318 : Int) true
                           go_wp2_with (first | ((with_reducible refine gate_store (t := 4) (p := 411) rfl ?_); refine store_event (t := 4) (p := 411) (v := ?vo_w180) (w1 := (wc.setCell ⟨go177, (t318 : Int).toNat, none⟩ (.bool true))) ?hg ?ho ?hn ?hr ?_; (case ho => rfl); (case hg => rfl); (case hn => rfl); (case hr => first | (go_simp; done) | (go_simp; rfl)); intro w180 hw; have hg : wc.grownBy w180 (some go177) := (by rw [hw]; exact HP179.2); have hp_ : Kd.R Kd.bool 4 w180 w.heap.size (fun _ => True) (.slice (some ⟨go177, 0, none⟩) x43_5.length co178) y324 := (by rw [hw, Ny324.out]; exact HP179.1); clear HP179; have n0_ := Aside0.mk (Kd.R_over' (v := (.slice (some ⟨go177, 0, none⟩) x43_5.length co178)) (by (with_reducible repeat (first | apply Kd.R_alloc | apply Kd.R_drewN | apply Kd.R_drew)); exact HO_27.out) (Kd.R_typed HO_43.out) (by decide) hg); have n1_ := Aside0.mk (hp_); have n2_ := Aside0.mk (blk_grown (g := gb266) (o := .cells #[.int .i64 a1_0, .int .i64 a1_1] 45 (0, 0)) bk_ hg (Kd.R_ne HO_43.out BK266.out (by decide))); have n3_ := Aside0.mk (blk_grown (g := gb267) (o := .cells #[.int .i64 a2_0, .int .i64 a2_1] 45 (0, 0)) bk_ hg (Kd.R_ne HO_43.out BK267.out (by decide))); have n4_ := Aside0.mk ((by rw [hw]; exact below_set (HB.out) GB177.out : Below w.heap.size w w180)); clear HO_27; clear HO_43; clear BK266; clear BK267; clear HB; have HO_27 := n0_; have HO_43 := n1_; have BK266 := n2_; have BK267 := n3_; have HB := n4_; clear n0_ n1_ n2_ n3_ n4_; clear hg hw hp_))
                           go_roundg kj155
                           case measure => have := HJ19.out; have := HJ88.out; have := HJ125.out; have := HJ138.out; have := HK5.out; have := HJ155.out; omega
                           case rel => exact ⟨(y324), (wrap64 (x44_5 + 1)), (wrap64 (x45_5 + 1)), (by first | rfl | (simp; done) | (simp [*]; done)), (by first | rfl | (simp; done) | (simp [*]; done)), H', ⟨by have := HJ19.out; have := HJ88.out; have := HJ125.out; have := HJ138.out; have := HK5.out; have := HJ155.out; omega⟩, ⟨by (with_reducible repeat (first | apply Kd.R_alloc | apply Kd.R_drewN | apply Kd.R_drew)); exact HO_27.out⟩, ⟨by (with_reducible repeat (first | apply Kd.R_alloc | apply Kd.R_drewN | apply Kd.R_drew)); exact HO_43.out⟩, ⟨by (with_reducible repeat (first | refine blk_drewN ?_ _ | refine blk_drew ?_ | refine blk_alloc ?_ _)); exact BK266.out⟩, ⟨by (with_reducible repeat (first | refine blk_drewN ?_ _ | refine blk_drew ?_ | refine blk_alloc ?_ _)); exact BK267.out⟩, ⟨bw_⟩⟩
                         ·
                          rw [if_neg c173] at H
                          exact absurd H (by simp)
                        ·
                         rw [if_neg c172] at H
                         exact absurd H (by simp)
                       ·
                        rw [if_neg c171] at H
                        have c171b0 : (t318 == t320) = false := beq_eq_false_iff_ne.mpr c171
                        have c171b1 : (t318 != t320) = true := bne_iff_ne.mpr c171
                        have H' := Aside0.mk H
                        clear H
                        go_wp2
                        go_roundg kj155
                        case measure => have := HJ19.out; have := HJ88.out; have := HJ125.out; have := HJ138.out; have := HK5.out; have := HJ155.out; omega
                        case rel => exact ⟨(x43_5), (x44_5), (wrap64 (x45_5 + 1)), (by first | rfl | (simp; done) | (simp [*]; done)), (by first | rfl | (simp; done) | (simp [*]; done)), H', ⟨by have := HJ19.out; have := HJ88.out; have := HJ125.out; have := HJ138.out; have := HK5.out; have := HJ155.out; omega⟩, ⟨by (with_reducible repeat (first | apply Kd.R_alloc | apply Kd.R_drewN | apply Kd.R_drew)); exact HO_27.out⟩, ⟨by (with_reducible repeat (first | apply Kd.R_alloc | apply Kd.R_drewN | apply Kd.R_drew)); exact HO_43.out⟩, ⟨by (with_reducible repeat (first | refine blk_drewN ?_ _ | refine blk_drew ?_ | refine blk_alloc ?_ _)); exact BK266.out⟩, ⟨by (with_reducible repeat (first | refine blk_drewN ?_ _ | refine blk_drew ?_ | refine blk_alloc ?_ _)); exact BK267.out⟩, ⟨bw_⟩⟩
                   ·
                    rw [if_neg c153] at H
                    have c153b0 : decide (x45_5 < t313) = false := decide_eq_false c153
                    clear c153
                    by_cases c181 : x44_5 = (t286.length : Int)
                    ·
                     rw [if_pos c181] at H
                     have c181b0 : (x44_5 == (t286.length : Int)) = true := beq_iff_eq.mpr c181
                     have c181b1 : (x44_5 != (t286.length : Int)) = false := bne_eq_false_iff_eq.mpr c181
                     clear c181
                     have H' := Aside0.mk H
                     clear H
                     obtain ⟨Ao182, co182, eo182⟩ := Kd.R_slice HO_27.out
                     subst eo182
                     go_wp2
                     go_meet
                     case rel => exact ⟨_, H', ⟨by have := HJ19.out; have := HJ88.out; have := HJ125.out; have := HJ138.out; have := HK5.out; first | omega | exact Nat.le_refl _⟩, ⟨by (with_reducible repeat (first | refine blk_drewN ?_ _ | refine blk_drew ?_ | refine blk_alloc ?_ _)); exact BK266.out⟩, ⟨by (with_reducible repeat (first | refine blk_drewN ?_ _ | refine blk_drew ?_ | refine blk_alloc ?_ _)); exact BK267.out⟩, ⟨bw_⟩⟩
                    ·
                     rw [if_neg c181] at H
                     have c181b0 : (x44_5 == (t286.length : Int)) = false := beq_eq_false_iff_ne.mpr c181
                     have c181b1 : (x44_5 != (t286.length : Int)) = true := bne_iff_ne.mpr c181
                     exact absurd ((Option.some.inj H).trans HRT.out) (by decide)
                ·
                 rw [if_neg c150] at H
                 exact absurd H (by simp)
               ·
                rw [if_neg c149] at H
                exact absurd H (by simp)
           ·
            replace c137 := Bool.eq_false_iff.mpr c137
            subst c137
            rw [if_neg (show ¬ (false = true) by decide)] at H
            have H' := Aside0.mk H
            clear H
            go_wp2
            go_meet
            case rel => exact ⟨_, H', ⟨by have := HJ19.out; have := HJ88.out; have := HJ125.out; first | omega | exact Nat.le_refl _⟩, ⟨by (with_reducible repeat (first | refine blk_drewN ?_ _ | refine blk_drew ?_ | refine blk_alloc ?_ _)); exact BK266.out⟩, ⟨by (with_reducible repeat (first | refine blk_drewN ?_ _ | refine blk_drew ?_ | refine blk_alloc ?_ _)); exact BK267.out⟩, ⟨bw_⟩⟩
          case rest => as_aux_lemma =>
           clear HC136
           (try clear c5); (try clear c7); (try clear c7b0); (try clear c7b1); (try clear c88); (try clear c135); (try clear hcz24_0); (try clear hcz24_1); (try clear hcz25_0); (try clear hcz25_1); (try clear hcz27_0); (try clear hcz27_1); (try clear hcz28_0); (try clear hcz28_1); (try clear hcz30_0); (try clear hcz30_1); (try clear hcz31_0); (try clear hcz31_1); (try clear hcz33_0); (try clear hcz33_1); (try clear hcz34_0); (try clear hcz34_1); (try clear hcz36_0); (try clear hcz36_1); (try clear hcz37_0); (try clear hcz37_1); (try clear hcz39_0); (try clear hcz39_1); (try clear hcz40_0); (try clear hcz40_1); (try clear hcz42_0); (try clear hcz42_1); (try clear hcz43_0); (try clear hcz43_1); (try clear hcz45_0); (try clear hcz45_1); (try clear hcz46_0); (try clear hcz46_1); (try clear hcz48_0); (try clear hcz48_1); (try clear hcz49_0); (try clear hcz49_1); (try clear hcz51_0); (try clear hcz51_1); (try clear hcz52_0); (try clear hcz52_1); (try clear hfz24_0); (try clear hfz24_1); (try clear hfz25_0); (try clear hfz25_1); (try clear hfz27_0); (try clear hfz27_1); (try clear hfz28_0); (try clear hfz28_1); (try clear hfz30_0); (try clear hfz30_1); (try clear hfz31_0); (try clear hfz31_1); (try clear hfz33_0); (try clear hfz33_1); (try clear hfz34_0); (try clear hfz34_1); (try clear hfz36_0); (try clear hfz36_1); (try clear hfz37_0); (try clear hfz37_1); (try clear hfz39_0); (try clear hfz39_1); (try clear hfz40_0); (try clear hfz40_1); (try clear hfz42_0); (try clear hfz42_1); (try clear hfz43_0); (try clear hfz43_1); (try clear hfz45_0); (try clear hfz45_1); (try clear hfz46_0); (try clear hfz46_1); (try clear hfz48_0); (try clear hfz48_1); (try clear hfz49_0); (try clear hfz49_1); (try clear hfz51_0); (try clear hfz51_1); (try clear hfz52_0); (try clear hfz52_1)
           obtain ⟨kq, HA, HJ135, BK266, BK267, HB⟩ := hcut
           cases kq with
           | zero => exact absurd HA.out (by simp [laws_FnRunnersMeetOfAll.j8])
           | succ kj135 =>
            have H := HA.out
            clear HA
            simp only [laws_FnRunnersMeetOfAll.j8] at H
            have HC183 := Aside0.mk H
            clear H
            go_upto_if 418 with (fail)
            go_cut [] from 419 to 516 (fun wc => ∃ (kq : Nat), Aside0 (laws_FnRunnersMeetOfAll.j11 kq a4 l5 = some r) ∧ Aside0 (kq ≤ kj135) ∧ Aside0 (wc.heap[gb266]? = some (.cells #[.int .i64 a1_0, .int .i64 a1_1] 45 (0, 0))) ∧ Aside0 (wc.heap[gb267]? = some (.cells #[.int .i64 a2_0, .int .i64 a2_1] 45 (0, 0))) ∧ Aside0 (Below w.heap.size w wc))
            case first => as_aux_lemma =>
             have H := HC183.out
             clear HC183
             by_cases c184 : t295 = true
             ·
              subst c184
              rw [if_pos rfl] at H
              replace H := Option.bind_eq_some_iff.mp H
              obtain ⟨⟨t325, t326⟩, A1850, H⟩ := H
              (try dsimp only at H)
              have A185 := Aside0.mk A1850
              clear A1850
              replace H := Option.bind_eq_some_iff.mp H
              obtain ⟨⟨t327, t328⟩, A1860, H⟩ := H
              (try dsimp only at H)
              have A186 := Aside0.mk A1860
              clear A1860
              have HC187 := Aside0.mk H
              clear H
              have hnb188 := NB267_266.out
              have hnc188 := NB266_267.out
              have hcz189_0 : wc.cell? ⟨gb267, 0, none⟩ = some (.int .i64 a2_0) := (blk_cell BK267.out 0).trans rfl
              have hcz189_1 : wc.cell? ⟨gb267, 1, none⟩ = some (.int .i64 a2_1) := (blk_cell BK267.out 1).trans rfl
              have hfz189_0 := blk_frozen BK267.out 0
              have hfz189_1 := blk_frozen BK267.out 1
              have hcz190_0 : wc.cell? ⟨gb266, 0, none⟩ = some (.int .i64 a1_0) := (blk_cell BK266.out 0).trans rfl
              have hcz190_1 : wc.cell? ⟨gb266, 1, none⟩ = some (.int .i64 a1_1) := (blk_cell BK266.out 1).trans rfl
              have hfz190_0 := blk_frozen BK266.out 0
              have hfz190_1 := blk_frozen BK266.out 1
              go_upto_region 49 with (first | ((with_reducible refine gate_callee (f := 30) rfl ?_); refine goesL_ (some 424) rfl rfl Try.func30 (by kernel_rfl) rfl #[.int .i64 a0, .agg #[.int .i64 a2_0, .int .i64 a2_1], .agg #[.int .i64 a1_0, .int .i64 a1_1], .int .i64 a3] rfl (by (try simp only [List.map_toArray, List.map_cons, List.map_nil]); first | done | rfl | (simp only [List.length_drop, List.length_take]; rfl)) ?_; (with_reducible refine (impl_LeadBetween.calls kj135 a0 a2_0 a2_1 a1_0 a1_1 a3 t325 t326 _ A185.out).mono ?_); rintro e w191 ⟨rfl, hb⟩; refine ⟨_, rfl, ?_⟩; have n0_ := Aside0.mk (blk_below (g := gb266) (o := .cells #[.int .i64 a1_0, .int .i64 a1_1] 45 (0, 0)) bk_ hb); have n1_ := Aside0.mk (blk_below (g := gb267) (o := .cells #[.int .i64 a2_0, .int .i64 a2_1] 45 (0, 0)) bk_ hb); have n2_ := Aside0.mk (below_step bw_ hb); clear BK266; clear BK267; clear HB; have BK266 := n0_; have BK267 := n1_; have HB := n2_; clear n0_ n1_ n2_; (try clear hb); (try clear hb2); (try clear hk); (try clear hi); have hcz192_0 : w191.cell? ⟨gb266, 0, none⟩ = some (.int .i64 a1_0) := (blk_cell BK266.out 0).trans rfl; have hcz192_1 : w191.cell? ⟨gb266, 1, none⟩ = some (.int .i64 a1_1) := (blk_cell BK266.out 1).trans rfl; have hfz192_0 := blk_frozen BK266.out 0; have hfz192_1 := blk_frozen BK266.out 1; have hcz193_0 : w191.cell? ⟨gb267, 0, none⟩ = some (.int .i64 a2_0) := (blk_cell BK267.out 0).trans rfl; have hcz193_1 : w191.cell? ⟨gb267, 1, none⟩ = some (.int .i64 a2_1) := (blk_cell BK267.out 1).trans rfl; have hfz193_0 := blk_frozen BK267.out 0; have hfz193_1 := blk_frozen BK267.out 1) | ((with_reducible refine gate_callee (f := 30) rfl ?_); refine goesL_ (some 431) rfl rfl Try.func30 (by kernel_rfl) rfl #[.int .i64 a0, .agg #[.int .i64 a1_0, .int .i64 a1_1], .agg #[.int .i64 a2_0, .int .i64 a2_1], .int .i64 0] rfl (by (try simp only [List.map_toArray, List.map_cons, List.map_nil]); first | done | rfl | (simp only [List.length_drop, List.length_take]; rfl)) ?_; (with_reducible refine (impl_LeadBetween.calls kj135 a0 a1_0 a1_1 a2_0 a2_1 0 t327 t328 _ A186.out).mono ?_); rintro e w194 ⟨rfl, hb⟩; refine ⟨_, rfl, ?_⟩; have n0_ := Aside0.mk (blk_below (g := gb266) (o := .cells #[.int .i64 a1_0, .int .i64 a1_1] 45 (0, 0)) bk_ hb); have n1_ := Aside0.mk (blk_below (g := gb267) (o := .cells #[.int .i64 a2_0, .int .i64 a2_1] 45 (0, 0)) bk_ hb); have n2_ := Aside0.mk (below_step bw_ hb); clear BK266; clear BK267; clear HB; have BK266 := n0_; have BK267 := n1_; have HB := n2_; clear n0_ n1_ n2_; (try clear hb); (try clear hb2); (try clear hk); (try clear hi)))
              (try simp only [Act.put, List.setIfInBounds_toArray, List.set_cons_zero, List.set_cons_succ])
              go_cut [458] from 434 to 458 (fun v458 wc => ∃ (kq : Nat) (x458_186 : Bool), v458 = .bool x458_186 ∧ Aside0 (laws_FnRunnersMeetOfAll.j9 kq a0 a4 l5 t276 t294 t327 x458_186 a1_0 a1_1 a2_0 a2_1 = some r) ∧ Aside0 (kq ≤ kj135) ∧ Aside0 (wc.heap[gb266]? = some (.cells #[.int .i64 a1_0, .int .i64 a1_1] 45 (0, 0))) ∧ Aside0 (wc.heap[gb267]? = some (.cells #[.int .i64 a2_0, .int .i64 a2_1] 45 (0, 0))) ∧ Aside0 (Below w.heap.size w wc))
              case first => as_aux_lemma =>
               have H := HC187.out
               clear HC187
               by_cases c195 : t326 = true
               ·
                subst c195
                rw [if_pos rfl] at H
                by_cases c196 : t325 = (wrap64 (-t294))
                ·
                 rw [if_pos c196] at H
                 have c196b0 : (t325 == (wrap64 (-t294))) = true := beq_iff_eq.mpr c196
                 have c196b1 : (t325 != (wrap64 (-t294))) = false := bne_eq_false_iff_eq.mpr c196
                 clear c196
                 (first | rw [c196b0] | (simp only [i64_w, i32_w]; rw [c196b0]) | skip)
                 by_cases c197 : t328 = true
                 ·
                  subst c197
                  rw [if_pos rfl] at H
                  have H' := Aside0.mk H
                  clear H
                  have hnb198 := NB266_267.out
                  have hnc198 := NB267_266.out
                  have hcz199_0 : w194.cell? ⟨gb266, 0, none⟩ = some (.int .i64 a1_0) := (blk_cell BK266.out 0).trans rfl
                  have hcz199_1 : w194.cell? ⟨gb266, 1, none⟩ = some (.int .i64 a1_1) := (blk_cell BK266.out 1).trans rfl
                  have hfz199_0 := blk_frozen BK266.out 0
                  have hfz199_1 := blk_frozen BK266.out 1
                  have hcz200_0 : w194.cell? ⟨gb267, 0, none⟩ = some (.int .i64 a2_0) := (blk_cell BK267.out 0).trans rfl
                  have hcz200_1 : w194.cell? ⟨gb267, 1, none⟩ = some (.int .i64 a2_1) := (blk_cell BK267.out 1).trans rfl
                  have hfz200_0 := blk_frozen BK267.out 0
                  have hfz200_1 := blk_frozen BK267.out 1
                  go_wp2
                  go_meet
                  case rel => exact ⟨_, ((t294 != (wrap64 (t327 + (wrap64 ((wrap64 (a1_1 - a2_1)) * a3)))))), (by first | rfl | (simp; done) | (simp [*]; done)), H', ⟨by have := HJ19.out; have := HJ88.out; have := HJ125.out; have := HJ135.out; first | omega | exact Nat.le_refl _⟩, ⟨by (with_reducible repeat (first | refine blk_drewN ?_ _ | refine blk_drew ?_ | refine blk_alloc ?_ _)); exact BK266.out⟩, ⟨by (with_reducible repeat (first | refine blk_drewN ?_ _ | refine blk_drew ?_ | refine blk_alloc ?_ _)); exact BK267.out⟩, ⟨bw_⟩⟩
                 ·
                  replace c197 := Bool.eq_false_iff.mpr c197
                  subst c197
                  rw [if_neg (show ¬ (false = true) by decide)] at H
                  exact absurd (H.trans (congrArg some HRT.out)) (by cases kj135 <;> simp [laws_FnRunnersMeetOfAll.j9])
                ·
                 rw [if_neg c196] at H
                 have c196b0 : (t325 == (wrap64 (-t294))) = false := beq_eq_false_iff_ne.mpr c196
                 have c196b1 : (t325 != (wrap64 (-t294))) = true := bne_iff_ne.mpr c196
                 (first | rw [c196b0] | (simp only [i64_w, i32_w]; rw [c196b0]) | skip)
                 exact absurd (H.trans (congrArg some HRT.out)) (by cases kj135 <;> simp [laws_FnRunnersMeetOfAll.j9])
               ·
                replace c195 := Bool.eq_false_iff.mpr c195
                subst c195
                rw [if_neg (show ¬ (false = true) by decide)] at H
                exact absurd (H.trans (congrArg some HRT.out)) (by cases kj135 <;> simp [laws_FnRunnersMeetOfAll.j9])
              case rest => as_aux_lemma =>
               clear HC187
               (try clear c5); (try clear c7); (try clear c7b0); (try clear c7b1); (try clear c88); (try clear c135); (try clear c184); (try clear hcz189_0); (try clear hcz189_1); (try clear hcz190_0); (try clear hcz190_1); (try clear hcz192_0); (try clear hcz192_1); (try clear hcz193_0); (try clear hcz193_1); (try clear hcz24_0); (try clear hcz24_1); (try clear hcz25_0); (try clear hcz25_1); (try clear hcz27_0); (try clear hcz27_1); (try clear hcz28_0); (try clear hcz28_1); (try clear hcz30_0); (try clear hcz30_1); (try clear hcz31_0); (try clear hcz31_1); (try clear hcz33_0); (try clear hcz33_1); (try clear hcz34_0); (try clear hcz34_1); (try clear hcz36_0); (try clear hcz36_1); (try clear hcz37_0); (try clear hcz37_1); (try clear hcz39_0); (try clear hcz39_1); (try clear hcz40_0); (try clear hcz40_1); (try clear hcz42_0); (try clear hcz42_1); (try clear hcz43_0); (try clear hcz43_1); (try clear hcz45_0); (try clear hcz45_1); (try clear hcz46_0); (try clear hcz46_1); (try clear hcz48_0); (try clear hcz48_1); (try clear hcz49_0); (try clear hcz49_1); (try clear hcz51_0); (try clear hcz51_1); (try clear hcz52_0); (try clear hcz52_1); (try clear hfz189_0); (try clear hfz189_1); (try clear hfz190_0); (try clear hfz190_1); (try clear hfz192_0); (try clear hfz192_1); (try clear hfz193_0); (try clear hfz193_1); (try clear hfz24_0); (try clear hfz24_1); (try clear hfz25_0); (try clear hfz25_1); (try clear hfz27_0); (try clear hfz27_1); (try clear hfz28_0); (try clear hfz28_1); (try clear hfz30_0); (try clear hfz30_1); (try clear hfz31_0); (try clear hfz31_1); (try clear hfz33_0); (try clear hfz33_1); (try clear hfz34_0); (try clear hfz34_1); (try clear hfz36_0); (try clear hfz36_1); (try clear hfz37_0); (try clear hfz37_1); (try clear hfz39_0); (try clear hfz39_1); (try clear hfz40_0); (try clear hfz40_1); (try clear hfz42_0); (try clear hfz42_1); (try clear hfz43_0); (try clear hfz43_1); (try clear hfz45_0); (try clear hfz45_1); (try clear hfz46_0); (try clear hfz46_1); (try clear hfz48_0); (try clear hfz48_1); (try clear hfz49_0); (try clear hfz49_1); (try clear hfz51_0); (try clear hfz51_1); (try clear hfz52_0); (try clear hfz52_1)
               obtain ⟨kq, x458_186, rfl, HA, HJ186, BK266, BK267, HB⟩ := hcut
               cases kq with
               | zero => exact absurd HA.out (by simp [laws_FnRunnersMeetOfAll.j9])
               | succ kj186 =>
                have H := HA.out
                clear HA
                simp only [laws_FnRunnersMeetOfAll.j9] at H
                by_cases c201 : x458_186 = true
                ·
                 subst c201
                 rw [if_pos rfl] at H
                 exact absurd ((Option.some.inj H).trans HRT.out) (by decide)
                ·
                 replace c201 := Bool.eq_false_iff.mpr c201
                 subst c201
                 rw [if_neg (show ¬ (false = true) by decide)] at H
                 have H' := Aside0.mk H
                 clear H
                 go_wp2
                 go_loopg [54, 55] kj186 (fun kq v54 v55 w' => ∃ (x54_6 : Int) (x55_6 : Int), v54 = .int .i64 x54_6 ∧ v55 = .int .i64 x55_6 ∧ Aside0 (laws_FnRunnersMeetOfAll.l2 kq a0 a4 l5 t276 t294 t327 x54_6 x55_6 a1_0 a1_1 a2_0 a2_1 = some r) ∧ Aside0 (kq ≤ kj186) ∧ Aside0 (w'.heap[gb266]? = some (.cells #[.int .i64 a1_0, .int .i64 a1_1] 45 (0, 0))) ∧ Aside0 (w'.heap[gb267]? = some (.cells #[.int .i64 a2_0, .int .i64 a2_1] 45 (0, 0))) ∧ Aside0 (Below w.heap.size w w'))
                 case atStart => exact ⟨(0), ((-1)), (by first | rfl | (simp; done) | (simp [*]; done)), (by first | rfl | (simp; done) | (simp [*]; done)), H', ⟨Nat.le_refl _⟩, ⟨by (with_reducible repeat (first | refine blk_drewN ?_ _ | refine blk_drew ?_ | refine blk_alloc ?_ _)); exact BK266.out⟩, ⟨by (with_reducible repeat (first | refine blk_drewN ?_ _ | refine blk_drew ?_ | refine blk_alloc ?_ _)); exact BK267.out⟩, ⟨bw_⟩⟩
                 case round => as_aux_lemma =>
                  clear H'
                  (try clear c5); (try clear c7); (try clear c7b0); (try clear c7b1); (try clear c88); (try clear c135); (try clear c184); (try clear c201); (try clear hcz189_0); (try clear hcz189_1); (try clear hcz190_0); (try clear hcz190_1); (try clear hcz192_0); (try clear hcz192_1); (try clear hcz193_0); (try clear hcz193_1); (try clear hcz24_0); (try clear hcz24_1); (try clear hcz25_0); (try clear hcz25_1); (try clear hcz27_0); (try clear hcz27_1); (try clear hcz28_0); (try clear hcz28_1); (try clear hcz30_0); (try clear hcz30_1); (try clear hcz31_0); (try clear hcz31_1); (try clear hcz33_0); (try clear hcz33_1); (try clear hcz34_0); (try clear hcz34_1); (try clear hcz36_0); (try clear hcz36_1); (try clear hcz37_0); (try clear hcz37_1); (try clear hcz39_0); (try clear hcz39_1); (try clear hcz40_0); (try clear hcz40_1); (try clear hcz42_0); (try clear hcz42_1); (try clear hcz43_0); (try clear hcz43_1); (try clear hcz45_0); (try clear hcz45_1); (try clear hcz46_0); (try clear hcz46_1); (try clear hcz48_0); (try clear hcz48_1); (try clear hcz49_0); (try clear hcz49_1); (try clear hcz51_0); (try clear hcz51_1); (try clear hcz52_0); (try clear hcz52_1); (try clear hfz189_0); (try clear hfz189_1); (try clear hfz190_0); (try clear hfz190_1); (try clear hfz192_0); (try clear hfz192_1); (try clear hfz193_0); (try clear hfz193_1); (try clear hfz24_0); (try clear hfz24_1); (try clear hfz25_0); (try clear hfz25_1); (try clear hfz27_0); (try clear hfz27_1); (try clear hfz28_0); (try clear hfz28_1); (try clear hfz30_0); (try clear hfz30_1); (try clear hfz31_0); (try clear hfz31_1); (try clear hfz33_0); (try clear hfz33_1); (try clear hfz34_0); (try clear hfz34_1); (try clear hfz36_0); (try clear hfz36_1); (try clear hfz37_0); (try clear hfz37_1); (try clear hfz39_0); (try clear hfz39_1); (try clear hfz40_0); (try clear hfz40_1); (try clear hfz42_0); (try clear hfz42_1); (try clear hfz43_0); (try clear hfz43_1); (try clear hfz45_0); (try clear hfz45_1); (try clear hfz46_0); (try clear hfz46_1); (try clear hfz48_0); (try clear hfz48_1); (try clear hfz49_0); (try clear hfz49_1); (try clear hfz51_0); (try clear hfz51_1); (try clear hfz52_0); (try clear hfz52_1)
                  obtain ⟨x54_6, x55_6, rfl, rfl, HA, HK6, BK266, BK267, HB⟩ := hrel
                  cases gk with
                  | zero => exact absurd HA.out (by simp [laws_FnRunnersMeetOfAll.l2])
                  | succ k6 =>
                   have H := HA.out
                   clear HA
                   simp only [laws_FnRunnersMeetOfAll.l2] at H
                   by_cases c202 : x55_6 ≤ 1
                   ·
                    rw [if_pos c202] at H
                    have c202b0 : decide (x55_6 ≤ 1) = true := decide_eq_true c202
                    clear c202
                    by_cases c203 : t327 ≤ (wrap64 (x55_6 * a0))
                    ·
                     rw [if_pos c203] at H
                     have c203b0 : decide (t327 ≤ (wrap64 (x55_6 * a0))) = true := decide_eq_true c203
                     clear c203
                     by_cases c204 : t294 > (wrap64 (x55_6 * a0))
                     ·
                      rw [if_pos c204] at H
                      have c204b0 : decide ((wrap64 (x55_6 * a0)) < t294) = true := decide_eq_true c204
                      clear c204
                      have H' := Aside0.mk H
                      clear H
                      go_wp2
                      go_roundg k6
                      case measure => have := HJ19.out; have := HJ88.out; have := HJ125.out; have := HJ135.out; have := HJ186.out; have := HK6.out; omega
                      case rel => exact ⟨(wrap64 (x54_6 + 1)), (wrap64 (x55_6 + 1)), (by first | rfl | (simp; done) | (simp [*]; done)), (by first | rfl | (simp; done) | (simp [*]; done)), H', ⟨by have := HJ19.out; have := HJ88.out; have := HJ125.out; have := HJ135.out; have := HJ186.out; have := HK6.out; omega⟩, ⟨by (with_reducible repeat (first | refine blk_drewN ?_ _ | refine blk_drew ?_ | refine blk_alloc ?_ _)); exact BK266.out⟩, ⟨by (with_reducible repeat (first | refine blk_drewN ?_ _ | refine blk_drew ?_ | refine blk_alloc ?_ _)); exact BK267.out⟩, ⟨bw_⟩⟩
                     ·
                      rw [if_neg c204] at H
                      have c204b0 : decide ((wrap64 (x55_6 * a0)) < t294) = false := decide_eq_false c204
                      clear c204
                      have H' := Aside0.mk H
                      clear H
                      go_wp2
                      go_roundg k6
                      case measure => have := HJ19.out; have := HJ88.out; have := HJ125.out; have := HJ135.out; have := HJ186.out; have := HK6.out; omega
                      case rel => exact ⟨(x54_6), (wrap64 (x55_6 + 1)), (by first | rfl | (simp; done) | (simp [*]; done)), (by first | rfl | (simp; done) | (simp [*]; done)), H', ⟨by have := HJ19.out; have := HJ88.out; have := HJ125.out; have := HJ135.out; have := HJ186.out; have := HK6.out; omega⟩, ⟨by (with_reducible repeat (first | refine blk_drewN ?_ _ | refine blk_drew ?_ | refine blk_alloc ?_ _)); exact BK266.out⟩, ⟨by (with_reducible repeat (first | refine blk_drewN ?_ _ | refine blk_drew ?_ | refine blk_alloc ?_ _)); exact BK267.out⟩, ⟨bw_⟩⟩
                    ·
                     rw [if_neg c203] at H
                     have c203b0 : decide (t327 ≤ (wrap64 (x55_6 * a0))) = false := decide_eq_false c203
                     clear c203
                     have H' := Aside0.mk H
                     clear H
                     go_wp2
                     go_roundg k6
                     case measure => have := HJ19.out; have := HJ88.out; have := HJ125.out; have := HJ135.out; have := HJ186.out; have := HK6.out; omega
                     case rel => exact ⟨(x54_6), (wrap64 (x55_6 + 1)), (by first | rfl | (simp; done) | (simp [*]; done)), (by first | rfl | (simp; done) | (simp [*]; done)), H', ⟨by have := HJ19.out; have := HJ88.out; have := HJ125.out; have := HJ135.out; have := HJ186.out; have := HK6.out; omega⟩, ⟨by (with_reducible repeat (first | refine blk_drewN ?_ _ | refine blk_drew ?_ | refine blk_alloc ?_ _)); exact BK266.out⟩, ⟨by (with_reducible repeat (first | refine blk_drewN ?_ _ | refine blk_drew ?_ | refine blk_alloc ?_ _)); exact BK267.out⟩, ⟨bw_⟩⟩
                   ·
                    rw [if_neg c202] at H
                    have c202b0 : decide (x55_6 ≤ 1) = false := decide_eq_false c202
                    clear c202
                    by_cases c205 : t276 < x54_6
                    ·
                     rw [if_pos c205] at H
                     have c205b0 : decide (t276 < x54_6) = true := decide_eq_true c205
                     clear c205
                     exact absurd ((Option.some.inj H).trans HRT.out) (by decide)
                    ·
                     rw [if_neg c205] at H
                     have c205b0 : decide (t276 < x54_6) = false := decide_eq_false c205
                     clear c205
                     by_cases c206 : a1_1 ≤ a2_1
                     ·
                      rw [if_pos c206] at H
                      have c206b0 : decide (a1_1 ≤ a2_1) = true := decide_eq_true c206
                      clear c206
                      by_cases c207 : t276 = 0
                      ·
                       rw [if_pos c207] at H
                       have c207b0 : (t276 == 0) = true := beq_iff_eq.mpr c207
                       have c207b1 : (t276 != 0) = false := bne_eq_false_iff_eq.mpr c207
                       clear c207
                       by_cases c208 : t294 ≤ a0
                       ·
                        rw [if_pos c208] at H
                        have c208b0 : decide (t294 ≤ a0) = true := decide_eq_true c208
                        clear c208
                        by_cases c209 : t276 = x54_6
                        ·
                         rw [if_pos c209] at H
                         have c209b0 : (t276 == x54_6) = true := beq_iff_eq.mpr c209
                         have c209b1 : (t276 != x54_6) = false := bne_eq_false_iff_eq.mpr c209
                         clear c209
                         by_cases c210 : t294 > a0
                         ·
                          rw [if_pos c210] at H
                          have c210b0 : decide (a0 < t294) = true := decide_eq_true c210
                          clear c210
                          by_cases c211 : a0 = 0
                          ·
                           rw [if_pos c211] at H
                           exact absurd H (by simp)
                          ·
                           rw [if_neg c211] at H
                           have c211b0 : (a0 == 0) = false := beq_eq_false_iff_ne.mpr c211
                           have c211b1 : (a0 != 0) = true := bne_iff_ne.mpr c211
                           by_cases c212 : t276 = (wrap64 ((wrap64 (x54_6 + (wrap64 (Int.tdiv (wrap64 (t294 - 1)) a0)))) - 1))
                           ·
                            rw [if_pos c212] at H
                            have c212b0 : (t276 == (wrap64 ((wrap64 (x54_6 + (wrap64 (Int.tdiv (wrap64 (t294 - 1)) a0)))) - 1))) = true := beq_iff_eq.mpr c212
                            have c212b1 : (t276 != (wrap64 ((wrap64 (x54_6 + (wrap64 (Int.tdiv (wrap64 (t294 - 1)) a0)))) - 1))) = false := bne_eq_false_iff_eq.mpr c212
                            clear c212
                            have H' := Aside0.mk H
                            clear H
                            have hnb213 := NB266_267.out
                            have hnc213 := NB267_266.out
                            have hcz214_0 : wr.cell? ⟨gb266, 0, none⟩ = some (.int .i64 a1_0) := (blk_cell BK266.out 0).trans rfl
                            have hcz214_1 : wr.cell? ⟨gb266, 1, none⟩ = some (.int .i64 a1_1) := (blk_cell BK266.out 1).trans rfl
                            have hfz214_0 := blk_frozen BK266.out 0
                            have hfz214_1 := blk_frozen BK266.out 1
                            have hcz215_0 : wr.cell? ⟨gb267, 0, none⟩ = some (.int .i64 a2_0) := (blk_cell BK267.out 0).trans rfl
                            have hcz215_1 : wr.cell? ⟨gb267, 1, none⟩ = some (.int .i64 a2_1) := (blk_cell BK267.out 1).trans rfl
                            have hfz215_0 := blk_frozen BK267.out 0
                            have hfz215_1 := blk_frozen BK267.out 1
                            go_wp2
                            go_meet
                            case rel => exact ⟨_, H', ⟨by have := HJ19.out; have := HJ88.out; have := HJ125.out; have := HJ135.out; have := HJ186.out; have := HK6.out; first | omega | exact Nat.le_refl _⟩, ⟨by (with_reducible repeat (first | refine blk_drewN ?_ _ | refine blk_drew ?_ | refine blk_alloc ?_ _)); exact BK266.out⟩, ⟨by (with_reducible repeat (first | refine blk_drewN ?_ _ | refine blk_drew ?_ | refine blk_alloc ?_ _)); exact BK267.out⟩, ⟨bw_⟩⟩
                           ·
                            rw [if_neg c212] at H
                            have c212b0 : (t276 == (wrap64 ((wrap64 (x54_6 + (wrap64 (Int.tdiv (wrap64 (t294 - 1)) a0)))) - 1))) = false := beq_eq_false_iff_ne.mpr c212
                            have c212b1 : (t276 != (wrap64 ((wrap64 (x54_6 + (wrap64 (Int.tdiv (wrap64 (t294 - 1)) a0)))) - 1))) = true := bne_iff_ne.mpr c212
                            exact absurd ((Option.some.inj H).trans HRT.out) (by decide)
                         ·
                          rw [if_neg c210] at H
                          have c210b0 : decide (a0 < t294) = false := decide_eq_false c210
                          clear c210
                          have H' := Aside0.mk H
                          clear H
                          have hnb216 := NB266_267.out
                          have hnc216 := NB267_266.out
                          have hcz217_0 : wr.cell? ⟨gb266, 0, none⟩ = some (.int .i64 a1_0) := (blk_cell BK266.out 0).trans rfl
                          have hcz217_1 : wr.cell? ⟨gb266, 1, none⟩ = some (.int .i64 a1_1) := (blk_cell BK266.out 1).trans rfl
                          have hfz217_0 := blk_frozen BK266.out 0
                          have hfz217_1 := blk_frozen BK266.out 1
                          have hcz218_0 : wr.cell? ⟨gb267, 0, none⟩ = some (.int .i64 a2_0) := (blk_cell BK267.out 0).trans rfl
                          have hcz218_1 : wr.cell? ⟨gb267, 1, none⟩ = some (.int .i64 a2_1) := (blk_cell BK267.out 1).trans rfl
                          have hfz218_0 := blk_frozen BK267.out 0
                          have hfz218_1 := blk_frozen BK267.out 1
                          go_wp2
                          go_meet
                          case rel => exact ⟨_, H', ⟨by have := HJ19.out; have := HJ88.out; have := HJ125.out; have := HJ135.out; have := HJ186.out; have := HK6.out; first | omega | exact Nat.le_refl _⟩, ⟨by (with_reducible repeat (first | refine blk_drewN ?_ _ | refine blk_drew ?_ | refine blk_alloc ?_ _)); exact BK266.out⟩, ⟨by (with_reducible repeat (first | refine blk_drewN ?_ _ | refine blk_drew ?_ | refine blk_alloc ?_ _)); exact BK267.out⟩, ⟨bw_⟩⟩
                        ·
                         rw [if_neg c209] at H
                         have c209b0 : (t276 == x54_6) = false := beq_eq_false_iff_ne.mpr c209
                         have c209b1 : (t276 != x54_6) = true := bne_iff_ne.mpr c209
                         exact absurd ((Option.some.inj H).trans HRT.out) (by decide)
                       ·
                        rw [if_neg c208] at H
                        have c208b0 : decide (t294 ≤ a0) = false := decide_eq_false c208
                        clear c208
                        by_cases c219 : t294 > a0
                        ·
                         rw [if_pos c219] at H
                         have c219b0 : decide (a0 < t294) = true := decide_eq_true c219
                         clear c219
                         by_cases c220 : a0 = 0
                         ·
                          rw [if_pos c220] at H
                          exact absurd H (by simp)
                         ·
                          rw [if_neg c220] at H
                          have c220b0 : (a0 == 0) = false := beq_eq_false_iff_ne.mpr c220
                          have c220b1 : (a0 != 0) = true := bne_iff_ne.mpr c220
                          by_cases c221 : t276 = (wrap64 ((wrap64 (x54_6 + (wrap64 (Int.tdiv (wrap64 (t294 - 1)) a0)))) - 1))
                          ·
                           rw [if_pos c221] at H
                           have c221b0 : (t276 == (wrap64 ((wrap64 (x54_6 + (wrap64 (Int.tdiv (wrap64 (t294 - 1)) a0)))) - 1))) = true := beq_iff_eq.mpr c221
                           have c221b1 : (t276 != (wrap64 ((wrap64 (x54_6 + (wrap64 (Int.tdiv (wrap64 (t294 - 1)) a0)))) - 1))) = false := bne_eq_false_iff_eq.mpr c221
                           clear c221
                           have H' := Aside0.mk H
                           clear H
                           have hnb222 := NB266_267.out
                           have hnc222 := NB267_266.out
                           have hcz223_0 : wr.cell? ⟨gb266, 0, none⟩ = some (.int .i64 a1_0) := (blk_cell BK266.out 0).trans rfl
                           have hcz223_1 : wr.cell? ⟨gb266, 1, none⟩ = some (.int .i64 a1_1) := (blk_cell BK266.out 1).trans rfl
                           have hfz223_0 := blk_frozen BK266.out 0
                           have hfz223_1 := blk_frozen BK266.out 1
                           have hcz224_0 : wr.cell? ⟨gb267, 0, none⟩ = some (.int .i64 a2_0) := (blk_cell BK267.out 0).trans rfl
                           have hcz224_1 : wr.cell? ⟨gb267, 1, none⟩ = some (.int .i64 a2_1) := (blk_cell BK267.out 1).trans rfl
                           have hfz224_0 := blk_frozen BK267.out 0
                           have hfz224_1 := blk_frozen BK267.out 1
                           go_wp2
                           go_meet
                           case rel => exact ⟨_, H', ⟨by have := HJ19.out; have := HJ88.out; have := HJ125.out; have := HJ135.out; have := HJ186.out; have := HK6.out; first | omega | exact Nat.le_refl _⟩, ⟨by (with_reducible repeat (first | refine blk_drewN ?_ _ | refine blk_drew ?_ | refine blk_alloc ?_ _)); exact BK266.out⟩, ⟨by (with_reducible repeat (first | refine blk_drewN ?_ _ | refine blk_drew ?_ | refine blk_alloc ?_ _)); exact BK267.out⟩, ⟨bw_⟩⟩
                          ·
                           rw [if_neg c221] at H
                           have c221b0 : (t276 == (wrap64 ((wrap64 (x54_6 + (wrap64 (Int.tdiv (wrap64 (t294 - 1)) a0)))) - 1))) = false := beq_eq_false_iff_ne.mpr c221
                           have c221b1 : (t276 != (wrap64 ((wrap64 (x54_6 + (wrap64 (Int.tdiv (wrap64 (t294 - 1)) a0)))) - 1))) = true := bne_iff_ne.mpr c221
                           exact absurd ((Option.some.inj H).trans HRT.out) (by decide)
                        ·
                         rw [if_neg c219] at H
                         have c219b0 : decide (a0 < t294) = false := decide_eq_false c219
                         clear c219
                         have H' := Aside0.mk H
                         clear H
                         have hnb225 := NB266_267.out
                         have hnc225 := NB267_266.out
                         have hcz226_0 : wr.cell? ⟨gb266, 0, none⟩ = some (.int .i64 a1_0) := (blk_cell BK266.out 0).trans rfl
                         have hcz226_1 : wr.cell? ⟨gb266, 1, none⟩ = some (.int .i64 a1_1) := (blk_cell BK266.out 1).trans rfl
                         have hfz226_0 := blk_frozen BK266.out 0
                         have hfz226_1 := blk_frozen BK266.out 1
                         have hcz227_0 : wr.cell? ⟨gb267, 0, none⟩ = some (.int .i64 a2_0) := (blk_cell BK267.out 0).trans rfl
                         have hcz227_1 : wr.cell? ⟨gb267, 1, none⟩ = some (.int .i64 a2_1) := (blk_cell BK267.out 1).trans rfl
                         have hfz227_0 := blk_frozen BK267.out 0
                         have hfz227_1 := blk_frozen BK267.out 1
                         go_wp2
                         go_meet
                         case rel => exact ⟨_, H', ⟨by have := HJ19.out; have := HJ88.out; have := HJ125.out; have := HJ135.out; have := HJ186.out; have := HK6.out; first | omega | exact Nat.le_refl _⟩, ⟨by (with_reducible repeat (first | refine blk_drewN ?_ _ | refine blk_drew ?_ | refine blk_alloc ?_ _)); exact BK266.out⟩, ⟨by (with_reducible repeat (first | refine blk_drewN ?_ _ | refine blk_drew ?_ | refine blk_alloc ?_ _)); exact BK267.out⟩, ⟨bw_⟩⟩
                      ·
                       rw [if_neg c207] at H
                       have c207b0 : (t276 == 0) = false := beq_eq_false_iff_ne.mpr c207
                       have c207b1 : (t276 != 0) = true := bne_iff_ne.mpr c207
                       exact absurd ((Option.some.inj H).trans HRT.out) (by decide)
                     ·
                      rw [if_neg c206] at H
                      have c206b0 : decide (a1_1 ≤ a2_1) = false := decide_eq_false c206
                      clear c206
                      by_cases c228 : t294 ≤ a0
                      ·
                       rw [if_pos c228] at H
                       have c228b0 : decide (t294 ≤ a0) = true := decide_eq_true c228
                       clear c228
                       by_cases c229 : t276 = x54_6
                       ·
                        rw [if_pos c229] at H
                        have c229b0 : (t276 == x54_6) = true := beq_iff_eq.mpr c229
                        have c229b1 : (t276 != x54_6) = false := bne_eq_false_iff_eq.mpr c229
                        clear c229
                        by_cases c230 : t294 > a0
                        ·
                         rw [if_pos c230] at H
                         have c230b0 : decide (a0 < t294) = true := decide_eq_true c230
                         clear c230
                         by_cases c231 : a0 = 0
                         ·
                          rw [if_pos c231] at H
                          exact absurd H (by simp)
                         ·
                          rw [if_neg c231] at H
                          have c231b0 : (a0 == 0) = false := beq_eq_false_iff_ne.mpr c231
                          have c231b1 : (a0 != 0) = true := bne_iff_ne.mpr c231
                          by_cases c232 : t276 = (wrap64 ((wrap64 (x54_6 + (wrap64 (Int.tdiv (wrap64 (t294 - 1)) a0)))) - 1))
                          ·
                           rw [if_pos c232] at H
                           have c232b0 : (t276 == (wrap64 ((wrap64 (x54_6 + (wrap64 (Int.tdiv (wrap64 (t294 - 1)) a0)))) - 1))) = true := beq_iff_eq.mpr c232
                           have c232b1 : (t276 != (wrap64 ((wrap64 (x54_6 + (wrap64 (Int.tdiv (wrap64 (t294 - 1)) a0)))) - 1))) = false := bne_eq_false_iff_eq.mpr c232
                           clear c232
                           have H' := Aside0.mk H
                           clear H
                           have hnb233 := NB266_267.out
                           have hnc233 := NB267_266.out
                           have hcz234_0 : wr.cell? ⟨gb266, 0, none⟩ = some (.int .i64 a1_0) := (blk_cell BK266.out 0).trans rfl
                           have hcz234_1 : wr.cell? ⟨gb266, 1, none⟩ = some (.int .i64 a1_1) := (blk_cell BK266.out 1).trans rfl
                           have hfz234_0 := blk_frozen BK266.out 0
                           have hfz234_1 := blk_frozen BK266.out 1
                           have hcz235_0 : wr.cell? ⟨gb267, 0, none⟩ = some (.int .i64 a2_0) := (blk_cell BK267.out 0).trans rfl
                           have hcz235_1 : wr.cell? ⟨gb267, 1, none⟩ = some (.int .i64 a2_1) := (blk_cell BK267.out 1).trans rfl
                           have hfz235_0 := blk_frozen BK267.out 0
                           have hfz235_1 := blk_frozen BK267.out 1
                           go_wp2
                           go_meet
                           case rel => exact ⟨_, H', ⟨by have := HJ19.out; have := HJ88.out; have := HJ125.out; have := HJ135.out; have := HJ186.out; have := HK6.out; first | omega | exact Nat.le_refl _⟩, ⟨by (with_reducible repeat (first | refine blk_drewN ?_ _ | refine blk_drew ?_ | refine blk_alloc ?_ _)); exact BK266.out⟩, ⟨by (with_reducible repeat (first | refine blk_drewN ?_ _ | refine blk_drew ?_ | refine blk_alloc ?_ _)); exact BK267.out⟩, ⟨bw_⟩⟩
                          ·
                           rw [if_neg c232] at H
                           have c232b0 : (t276 == (wrap64 ((wrap64 (x54_6 + (wrap64 (Int.tdiv (wrap64 (t294 - 1)) a0)))) - 1))) = false := beq_eq_false_iff_ne.mpr c232
                           have c232b1 : (t276 != (wrap64 ((wrap64 (x54_6 + (wrap64 (Int.tdiv (wrap64 (t294 - 1)) a0)))) - 1))) = true := bne_iff_ne.mpr c232
                           exact absurd ((Option.some.inj H).trans HRT.out) (by decide)
                        ·
                         rw [if_neg c230] at H
                         have c230b0 : decide (a0 < t294) = false := decide_eq_false c230
                         clear c230
                         have H' := Aside0.mk H
                         clear H
                         have hnb236 := NB266_267.out
                         have hnc236 := NB267_266.out
                         have hcz237_0 : wr.cell? ⟨gb266, 0, none⟩ = some (.int .i64 a1_0) := (blk_cell BK266.out 0).trans rfl
                         have hcz237_1 : wr.cell? ⟨gb266, 1, none⟩ = some (.int .i64 a1_1) := (blk_cell BK266.out 1).trans rfl
                         have hfz237_0 := blk_frozen BK266.out 0
                         have hfz237_1 := blk_frozen BK266.out 1
                         have hcz238_0 : wr.cell? ⟨gb267, 0, none⟩ = some (.int .i64 a2_0) := (blk_cell BK267.out 0).trans rfl
                         have hcz238_1 : wr.cell? ⟨gb267, 1, none⟩ = some (.int .i64 a2_1) := (blk_cell BK267.out 1).trans rfl
                         have hfz238_0 := blk_frozen BK267.out 0
                         have hfz238_1 := blk_frozen BK267.out 1
                         go_wp2
                         go_meet
                         case rel => exact ⟨_, H', ⟨by have := HJ19.out; have := HJ88.out; have := HJ125.out; have := HJ135.out; have := HJ186.out; have := HK6.out; first | omega | exact Nat.le_refl _⟩, ⟨by (with_reducible repeat (first | refine blk_drewN ?_ _ | refine blk_drew ?_ | refine blk_alloc ?_ _)); exact BK266.out⟩, ⟨by (with_reducible repeat (first | refine blk_drewN ?_ _ | refine blk_drew ?_ | refine blk_alloc ?_ _)); exact BK267.out⟩, ⟨bw_⟩⟩
                       ·
                        rw [if_neg c229] at H
                        have c229b0 : (t276 == x54_6) = false := beq_eq_false_iff_ne.mpr c229
                        have c229b1 : (t276 != x54_6) = true := bne_iff_ne.mpr c229
                        exact absurd ((Option.some.inj H).trans HRT.out) (by decide)
                      ·
                       rw [if_neg c228] at H
                       have c228b0 : decide (t294 ≤ a0) = false := decide_eq_false c228
                       clear c228
                       by_cases c239 : t294 > a0
                       ·
                        rw [if_pos c239] at H
                        have c239b0 : decide (a0 < t294) = true := decide_eq_true c239
                        clear c239
                        by_cases c240 : a0 = 0
                        ·
                         rw [if_pos c240] at H
                         exact absurd H (by simp)
                        ·
                         rw [if_neg c240] at H
                         have c240b0 : (a0 == 0) = false := beq_eq_false_iff_ne.mpr c240
                         have c240b1 : (a0 != 0) = true := bne_iff_ne.mpr c240
                         by_cases c241 : t276 = (wrap64 ((wrap64 (x54_6 + (wrap64 (Int.tdiv (wrap64 (t294 - 1)) a0)))) - 1))
                         ·
                          rw [if_pos c241] at H
                          have c241b0 : (t276 == (wrap64 ((wrap64 (x54_6 + (wrap64 (Int.tdiv (wrap64 (t294 - 1)) a0)))) - 1))) = true := beq_iff_eq.mpr c241
                          have c241b1 : (t276 != (wrap64 ((wrap64 (x54_6 + (wrap64 (Int.tdiv (wrap64 (t294 - 1)) a0)))) - 1))) = false := bne_eq_false_iff_eq.mpr c241
                          clear c241
                          have H' := Aside0.mk H
                          clear H
                          have hnb242 := NB266_267.out
                          have hnc242 := NB267_266.out
                          have hcz243_0 : wr.cell? ⟨gb266, 0, none⟩ = some (.int .i64 a1_0) := (blk_cell BK266.out 0).trans rfl
                          have hcz243_1 : wr.cell? ⟨gb266, 1, none⟩ = some (.int .i64 a1_1) := (blk_cell BK266.out 1).trans rfl
                          have hfz243_0 := blk_frozen BK266.out 0
                          have hfz243_1 := blk_frozen BK266.out 1
                          have hcz244_0 : wr.cell? ⟨gb267, 0, none⟩ = some (.int .i64 a2_0) := (blk_cell BK267.out 0).trans rfl
                          have hcz244_1 : wr.cell? ⟨gb267, 1, none⟩ = some (.int .i64 a2_1) := (blk_cell BK267.out 1).trans rfl
                          have hfz244_0 := blk_frozen BK267.out 0
                          have hfz244_1 := blk_frozen BK267.out 1
                          go_wp2
                          go_meet
                          case rel => exact ⟨_, H', ⟨by have := HJ19.out; have := HJ88.out; have := HJ125.out; have := HJ135.out; have := HJ186.out; have := HK6.out; first | omega | exact Nat.le_refl _⟩, ⟨by (with_reducible repeat (first | refine blk_drewN ?_ _ | refine blk_drew ?_ | refine blk_alloc ?_ _)); exact BK266.out⟩, ⟨by (with_reducible repeat (first | refine blk_drewN ?_ _ | refine blk_drew ?_ | refine blk_alloc ?_ _)); exact BK267.out⟩, ⟨bw_⟩⟩
                         ·
                          rw [if_neg c241] at H
                          have c241b0 : (t276 == (wrap64 ((wrap64 (x54_6 + (wrap64 (Int.tdiv (wrap64 (t294 - 1)) a0)))) - 1))) = false := beq_eq_false_iff_ne.mpr c241
                          have c241b1 : (t276 != (wrap64 ((wrap64 (x54_6 + (wrap64 (Int.tdiv (wrap64 (t294 - 1)) a0)))) - 1))) = true := bne_iff_ne.mpr c241
                          exact absurd ((Option.some.inj H).trans HRT.out) (by decide)
                       ·
                        rw [if_neg c239] at H
                        have c239b0 : decide (a0 < t294) = false := decide_eq_false c239
                        clear c239
                        have H' := Aside0.mk H
                        clear H
                        have hnb245 := NB266_267.out
                        have hnc245 := NB267_266.out
                        have hcz246_0 : wr.cell? ⟨gb266, 0, none⟩ = some (.int .i64 a1_0) := (blk_cell BK266.out 0).trans rfl
                        have hcz246_1 : wr.cell? ⟨gb266, 1, none⟩ = some (.int .i64 a1_1) := (blk_cell BK266.out 1).trans rfl
                        have hfz246_0 := blk_frozen BK266.out 0
                        have hfz246_1 := blk_frozen BK266.out 1
                        have hcz247_0 : wr.cell? ⟨gb267, 0, none⟩ = some (.int .i64 a2_0) := (blk_cell BK267.out 0).trans rfl
                        have hcz247_1 : wr.cell? ⟨gb267, 1, none⟩ = some (.int .i64 a2_1) := (blk_cell BK267.out 1).trans rfl
                        have hfz247_0 := blk_frozen BK267.out 0
                        have hfz247_1 := blk_frozen BK267.out 1
                        go_wp2
                        go_meet
                        case rel => exact ⟨_, H', ⟨by have := HJ19.out; have := HJ88.out; have := HJ125.out; have := HJ135.out; have := HJ186.out; have := HK6.out; first | omega | exact Nat.le_refl _⟩, ⟨by (with_reducible repeat (first | refine blk_drewN ?_ _ | refine blk_drew ?_ | refine blk_alloc ?_ _)); exact BK266.out⟩, ⟨by (with_reducible repeat (first | refine blk_drewN ?_ _ | refine blk_drew ?_ | refine blk_alloc ?_ _)); exact BK267.out⟩, ⟨bw_⟩⟩
             ·
              replace c184 := Bool.eq_false_iff.mpr c184
              subst c184
              rw [if_neg (show ¬ (false = true) by decide)] at H
              have H' := Aside0.mk H
              clear H
              go_wp2
              go_meet
              case rel => exact ⟨_, H', ⟨by have := HJ19.out; have := HJ88.out; have := HJ125.out; have := HJ135.out; first | omega | exact Nat.le_refl _⟩, ⟨by (with_reducible repeat (first | refine blk_drewN ?_ _ | refine blk_drew ?_ | refine blk_alloc ?_ _)); exact BK266.out⟩, ⟨by (with_reducible repeat (first | refine blk_drewN ?_ _ | refine blk_drew ?_ | refine blk_alloc ?_ _)); exact BK267.out⟩, ⟨bw_⟩⟩
            case rest => as_aux_lemma =>
             clear HC183
             (try clear c5); (try clear c7); (try clear c88); (try clear c135); (try clear hcz24_0); (try clear hcz24_1); (try clear hcz25_0); (try clear hcz25_1); (try clear hcz27_0); (try clear hcz27_1); (try clear hcz28_0); (try clear hcz28_1); (try clear hcz30_0); (try clear hcz30_1); (try clear hcz31_0); (try clear hcz31_1); (try clear hcz33_0); (try clear hcz33_1); (try clear hcz34_0); (try clear hcz34_1); (try clear hcz36_0); (try clear hcz36_1); (try clear hcz37_0); (try clear hcz37_1); (try clear hcz39_0); (try clear hcz39_1); (try clear hcz40_0); (try clear hcz40_1); (try clear hcz42_0); (try clear hcz42_1); (try clear hcz43_0); (try clear hcz43_1); (try clear hcz45_0); (try clear hcz45_1); (try clear hcz46_0); (try clear hcz46_1); (try clear hcz48_0); (try clear hcz48_1); (try clear hcz49_0); (try clear hcz49_1); (try clear hcz51_0); (try clear hcz51_1); (try clear hcz52_0); (try clear hcz52_1); (try clear hfz24_0); (try clear hfz24_1); (try clear hfz25_0); (try clear hfz25_1); (try clear hfz27_0); (try clear hfz27_1); (try clear hfz28_0); (try clear hfz28_1); (try clear hfz30_0); (try clear hfz30_1); (try clear hfz31_0); (try clear hfz31_1); (try clear hfz33_0); (try clear hfz33_1); (try clear hfz34_0); (try clear hfz34_1); (try clear hfz36_0); (try clear hfz36_1); (try clear hfz37_0); (try clear hfz37_1); (try clear hfz39_0); (try clear hfz39_1); (try clear hfz40_0); (try clear hfz40_1); (try clear hfz42_0); (try clear hfz42_1); (try clear hfz43_0); (try clear hfz43_1); (try clear hfz45_0); (try clear hfz45_1); (try clear hfz46_0); (try clear hfz46_1); (try clear hfz48_0); (try clear hfz48_1); (try clear hfz49_0); (try clear hfz49_1); (try clear hfz51_0); (try clear hfz51_1); (try clear hfz52_0); (try clear hfz52_1)
             obtain ⟨kq, HA, HJ182, BK266, BK267, HB⟩ := hcut
             cases kq with
             | zero => exact absurd HA.out (by simp [laws_FnRunnersMeetOfAll.j11])
             | succ kj182 =>
              have H := HA.out
              clear HA
              simp only [laws_FnRunnersMeetOfAll.j11] at H
              replace H := Option.bind_eq_some_iff.mp H
              obtain ⟨⟨t329, t330⟩, A2480, H⟩ := H
              (try dsimp only at H)
              have A248 := Aside0.mk A2480
              clear A2480
              replace H := Option.bind_eq_some_iff.mp H
              obtain ⟨⟨t331, t332⟩, A2490, H⟩ := H
              (try dsimp only at H)
              have A249 := Aside0.mk A2490
              clear A2490
              replace H := Option.bind_eq_some_iff.mp H
              obtain ⟨⟨t333, t334⟩, A2500, H⟩ := H
              (try dsimp only at H)
              have A250 := Aside0.mk A2500
              clear A2500
              replace H := Option.bind_eq_some_iff.mp H
              obtain ⟨⟨t335, t336⟩, A2510, H⟩ := H
              (try dsimp only at H)
              have A251 := Aside0.mk A2510
              clear A2510
              have HC252 := Aside0.mk H
              clear H
              go_upto_region 63 with (first | ((with_reducible refine gate_callee (f := 37) rfl ?_); refine goesL_ (some 520) rfl rfl Try.func37 (by kernel_rfl) rfl #[.int .i64 a4, .slice A5 l5.length c5] rfl (by (try simp only [List.map_toArray, List.map_cons, List.map_nil]); first | done | rfl | (simp only [List.length_drop, List.length_take]; rfl)) ?_; (with_reducible refine (impl_AllRunnersTogether.calls kj182 a4 _ _ l5 t329 t330 _ ?side1 ?side2 A248.out).mono ?_); (case side1 => repeat (first | exact (Kd.C_below HR5.out HB.out) | (with_reducible refine Kd.C_alloc ?_ _) | (with_reducible refine Kd.C_drewN ?_ _) | (with_reducible refine Kd.C_drew ?_))); (case side2 => exact HC5.out); rintro e w253 ⟨rfl, hb⟩; refine ⟨_, rfl, ?_⟩; have n0_ := Aside0.mk (blk_below (g := gb266) (o := .cells #[.int .i64 a1_0, .int .i64 a1_1] 45 (0, 0)) bk_ hb); have n1_ := Aside0.mk (blk_below (g := gb267) (o := .cells #[.int .i64 a2_0, .int .i64 a2_1] 45 (0, 0)) bk_ hb); have n2_ := Aside0.mk (below_step bw_ hb); clear BK266; clear BK267; clear HB; have BK266 := n0_; have BK267 := n1_; have HB := n2_; clear n0_ n1_ n2_; (try clear hb); (try clear hb2); (try clear hk); (try clear hi)) | ((with_reducible refine gate_callee (f := 38) rfl ?_); refine goesL_ (some 526) rfl rfl Try.func38 (by kernel_rfl) rfl #[.int .i64 a4, .slice A5 l5.length c5] rfl (by (try simp only [List.map_toArray, List.map_cons, List.map_nil]); first | done | rfl | (simp only [List.length_drop, List.length_take]; rfl)) ?_; (with_reducible refine (spec_AllRunnersTogether.calls kj182 a4 _ _ l5 t331 t332 _ ?side1 ?side2 A249.out).mono ?_); (case side1 => repeat (first | exact (Kd.C_below HR5.out HB.out) | (with_reducible refine Kd.C_alloc ?_ _) | (with_reducible refine Kd.C_drewN ?_ _) | (with_reducible refine Kd.C_drew ?_))); (case side2 => exact HC5.out); rintro e w254 ⟨rfl, hb⟩; refine ⟨_, rfl, ?_⟩; have n0_ := Aside0.mk (blk_below (g := gb266) (o := .cells #[.int .i64 a1_0, .int .i64 a1_1] 45 (0, 0)) bk_ hb); have n1_ := Aside0.mk (blk_below (g := gb267) (o := .cells #[.int .i64 a2_0, .int .i64 a2_1] 45 (0, 0)) bk_ hb); have n2_ := Aside0.mk (below_step bw_ hb); clear BK266; clear BK267; clear HB; have BK266 := n0_; have BK267 := n1_; have HB := n2_; clear n0_ n1_ n2_; (try clear hb); (try clear hb2); (try clear hk); (try clear hi)) | ((with_reducible refine gate_callee (f := 36) rfl ?_); refine goesL_ (some 532) rfl rfl Try.func36 (by kernel_rfl) rfl #[.int .i64 a4, .slice A5 l5.length c5] rfl (by (try simp only [List.map_toArray, List.map_cons, List.map_nil]); first | done | rfl | (simp only [List.length_drop, List.length_take]; rfl)) ?_; (with_reducible refine (impl_RunPeriod.calls kj182 a4 _ _ l5 t333 t334 _ ?side1 ?side2 A250.out).mono ?_); (case side1 => repeat (first | exact (Kd.C_below HR5.out HB.out) | (with_reducible refine Kd.C_alloc ?_ _) | (with_reducible refine Kd.C_drewN ?_ _) | (with_reducible refine Kd.C_drew ?_))); (case side2 => exact HC5.out); rintro e w255 ⟨rfl, hb⟩; refine ⟨_, rfl, ?_⟩; have n0_ := Aside0.mk (blk_below (g := gb266) (o := .cells #[.int .i64 a1_0, .int .i64 a1_1] 45 (0, 0)) bk_ hb); have n1_ := Aside0.mk (blk_below (g := gb267) (o := .cells #[.int .i64 a2_0, .int .i64 a2_1] 45 (0, 0)) bk_ hb); have n2_ := Aside0.mk (below_step bw_ hb); clear BK266; clear BK267; clear HB; have BK266 := n0_; have BK267 := n1_; have HB := n2_; clear n0_ n1_ n2_; (try clear hb); (try clear hb2); (try clear hk); (try clear hi)) | ((with_reducible refine gate_callee (f := 39) rfl ?_); refine goesL_ (some 538) rfl rfl Try.func39 (by kernel_rfl) rfl #[.int .i64 a4, .slice A5 l5.length c5] rfl (by (try simp only [List.map_toArray, List.map_cons, List.map_nil]); first | done | rfl | (simp only [List.length_drop, List.length_take]; rfl)) ?_; (with_reducible refine (spec_RunPeriod.calls kj182 a4 _ _ l5 t335 t336 _ ?side1 ?side2 A251.out).mono ?_); (case side1 => repeat (first | exact (Kd.C_below HR5.out HB.out) | (with_reducible refine Kd.C_alloc ?_ _) | (with_reducible refine Kd.C_drewN ?_ _) | (with_reducible refine Kd.C_drew ?_))); (case side2 => exact HC5.out); rintro e w256 ⟨rfl, hb⟩; refine ⟨_, rfl, ?_⟩; have n0_ := Aside0.mk (blk_below (g := gb266) (o := .cells #[.int .i64 a1_0, .int .i64 a1_1] 45 (0, 0)) bk_ hb); have n1_ := Aside0.mk (blk_below (g := gb267) (o := .cells #[.int .i64 a2_0, .int .i64 a2_1] 45 (0, 0)) bk_ hb); have n2_ := Aside0.mk (below_step bw_ hb); clear BK266; clear BK267; clear HB; have BK266 := n0_; have BK267 := n1_; have HB := n2_; clear n0_ n1_ n2_; (try clear hb); (try clear hb2); (try clear hk); (try clear hi)))
              (try simp only [Act.put, List.setIfInBounds_toArray, List.set_cons_zero, List.set_cons_succ])
              go_cut [581] from 541 to 581 (fun v581 wc => ∃ (kq : Nat) (x581_251 : Bool), v581 = .bool x581_251 ∧ Aside0 (laws_FnRunnersMeetOfAll.j12 kq a4 l5 t329 t330 t333 t334 x581_251 = some r) ∧ Aside0 (kq ≤ kj182) ∧ Aside0 (wc.heap[gb266]? = some (.cells #[.int .i64 a1_0, .int .i64 a1_1] 45 (0, 0))) ∧ Aside0 (wc.heap[gb267]? = some (.cells #[.int .i64 a2_0, .int .i64 a2_1] 45 (0, 0))) ∧ Aside0 (Below w.heap.size w wc))
              case first => as_aux_lemma =>
               have H := HC252.out
               clear HC252
               by_cases c257 : (t330 != t332) = true
               ·
                rw [if_pos c257] at H
                have c257b0 : (t330 != t332) = true := c257
                (try (have c257b1 : decide (t330 = t332) = false := by simpa using c257))
                (try (have c257b2 : (t330 == t332) = false := by simpa using c257))
                (try (have c257b3 : ¬ (t330 = t332) := by simpa using c257))
                clear c257
                (first | rw [c257b0] | (simp only [i64_w, i32_w]; rw [c257b0]) | skip)
                exact absurd (H.trans (congrArg some HRT.out)) (by cases kj182 <;> simp [laws_FnRunnersMeetOfAll.j12])
               ·
                rw [if_neg c257] at H
                have c257b0 : (t330 != t332) = false := by simpa using c257
                (try (have c257b1 : decide (t330 = t332) = true := by simpa using c257))
                (try (have c257b2 : (t330 == t332) = true := by simpa using c257))
                clear c257
                (first | rw [c257b0] | (simp only [i64_w, i32_w]; rw [c257b0]) | skip)
                by_cases c258 : t329 = t331
                ·
                 rw [if_pos c258] at H
                 have c258b0 : (t329 == t331) = true := beq_iff_eq.mpr c258
                 have c258b1 : (t329 != t331) = false := bne_eq_false_iff_eq.mpr c258
                 clear c258
                 by_cases c259 : (t334 != t336) = true
                 ·
                  rw [if_pos c259] at H
                  have c259b0 : (t334 != t336) = true := c259
                  (try (have c259b1 : decide (t334 = t336) = false := by simpa using c259))
                  (try (have c259b2 : (t334 == t336) = false := by simpa using c259))
                  (try (have c259b3 : ¬ (t334 = t336) := by simpa using c259))
                  clear c259
                  exact absurd (H.trans (congrArg some HRT.out)) (by cases kj182 <;> simp [laws_FnRunnersMeetOfAll.j12])
                 ·
                  rw [if_neg c259] at H
                  have c259b0 : (t334 != t336) = false := by simpa using c259
                  (try (have c259b1 : decide (t334 = t336) = true := by simpa using c259))
                  (try (have c259b2 : (t334 == t336) = true := by simpa using c259))
                  clear c259
                  by_cases c260 : t333 = t335
                  ·
                   rw [if_pos c260] at H
                   have c260b0 : (t333 == t335) = true := beq_iff_eq.mpr c260
                   have c260b1 : (t333 != t335) = false := bne_eq_false_iff_eq.mpr c260
                   clear c260
                   replace H := Option.bind_eq_some_iff.mp H
                   obtain ⟨t337, A2610, H⟩ := H
                   (try dsimp only at H)
                   have A261 := Aside0.mk A2610
                   clear A2610
                   by_cases c262 : (t334 != t337) = true
                   ·
                    rw [if_pos c262] at H
                    have c262b0 : (t334 != t337) = true := c262
                    (try (have c262b1 : decide (t334 = t337) = false := by simpa using c262))
                    (try (have c262b2 : (t334 == t337) = false := by simpa using c262))
                    (try (have c262b3 : ¬ (t334 = t337) := by simpa using c262))
                    clear c262
                    exact absurd (H.trans (congrArg some HRT.out)) (by cases kj182 <;> simp [laws_FnRunnersMeetOfAll.j12])
                   ·
                    rw [if_neg c262] at H
                    have c262b0 : (t334 != t337) = false := by simpa using c262
                    (try (have c262b1 : decide (t334 = t337) = true := by simpa using c262))
                    (try (have c262b2 : (t334 == t337) = true := by simpa using c262))
                    clear c262
                    replace H := Option.bind_eq_some_iff.mp H
                    obtain ⟨t338, A2630, H⟩ := H
                    (try dsimp only at H)
                    have A263 := Aside0.mk A2630
                    have e338 : t337 = t338 := Option.some.inj (A261.out.symm.trans A263.out)
                    subst e338
                    clear A2630
                    replace H := Option.bind_eq_some_iff.mp H
                    obtain ⟨t339, A2640, H⟩ := H
                    (try dsimp only at H)
                    have A264 := Aside0.mk A2640
                    clear A2640
                    by_cases c265 : (t337 != t339) = true
                    ·
                     rw [if_pos c265] at H
                     have c265b0 : (t337 != t339) = true := c265
                     (try (have c265b1 : decide (t337 = t339) = false := by simpa using c265))
                     (try (have c265b2 : (t337 == t339) = false := by simpa using c265))
                     (try (have c265b3 : ¬ (t337 = t339) := by simpa using c265))
                     clear c265
                     exact absurd (H.trans (congrArg some HRT.out)) (by cases kj182 <;> simp [laws_FnRunnersMeetOfAll.j12])
                    ·
                     rw [if_neg c265] at H
                     have c265b0 : (t337 != t339) = false := by simpa using c265
                     (try (have c265b1 : decide (t337 = t339) = true := by simpa using c265))
                     (try (have c265b2 : (t337 == t339) = true := by simpa using c265))
                     clear c265
                     by_cases c266 : t330 = true
                     ·
                      subst c266
                      rw [if_pos rfl] at H
                      have H' := Aside0.mk H
                      clear H
                      go_wp2_with (first | (go_at_call 40; (with_reducible refine (impl_AreRunners.calls a4 _ _ l5 t337 _ ?side1 ?side2 A261.out).mono ?_); (case side1 => repeat (first | exact (Kd.C_below HR5.out HB.out) | (with_reducible refine Kd.C_alloc ?_ _) | (with_reducible refine Kd.C_drewN ?_ _) | (with_reducible refine Kd.C_drew ?_))); (case side2 => exact HC5.out); rintro e w267 ⟨rfl, hb⟩; have n0_ := Aside0.mk (blk_below (g := gb266) (o := .cells #[.int .i64 a1_0, .int .i64 a1_1] 45 (0, 0)) bk_ hb); have n1_ := Aside0.mk (blk_below (g := gb267) (o := .cells #[.int .i64 a2_0, .int .i64 a2_1] 45 (0, 0)) bk_ hb); have n2_ := Aside0.mk (below_step bw_ hb); clear BK266; clear BK267; clear HB; have BK266 := n0_; have BK267 := n1_; have HB := n2_; clear n0_ n1_ n2_; (try clear hb); (try clear hb2); (try clear hk); (try clear hi)) | (go_at_call 40; (with_reducible refine (impl_AreRunners.calls a4 _ _ l5 t337 _ ?side1 ?side2 A263.out).mono ?_); (case side1 => repeat (first | exact (Kd.C_below HR5.out HB.out) | (with_reducible refine Kd.C_alloc ?_ _) | (with_reducible refine Kd.C_drewN ?_ _) | (with_reducible refine Kd.C_drew ?_))); (case side2 => exact HC5.out); rintro e w268 ⟨rfl, hb⟩; have n0_ := Aside0.mk (blk_below (g := gb266) (o := .cells #[.int .i64 a1_0, .int .i64 a1_1] 45 (0, 0)) bk_ hb); have n1_ := Aside0.mk (blk_below (g := gb267) (o := .cells #[.int .i64 a2_0, .int .i64 a2_1] 45 (0, 0)) bk_ hb); have n2_ := Aside0.mk (below_step bw_ hb); clear BK266; clear BK267; clear HB; have BK266 := n0_; have BK267 := n1_; have HB := n2_; clear n0_ n1_ n2_; (try clear hb); (try clear hb2); (try clear hk); (try clear hi)) | (go_at_call 41; (with_reducible refine (spec_AreRunners.calls kj182 a4 _ _ l5 t339 _ ?side1 ?side2 A264.out).mono ?_); (case side1 => repeat (first | exact (Kd.C_below HR5.out HB.out) | (with_reducible refine Kd.C_alloc ?_ _) | (with_reducible refine Kd.C_drewN ?_ _) | (with_reducible refine Kd.C_drew ?_))); (case side2 => exact HC5.out); rintro e w269 ⟨rfl, hb⟩; have n0_ := Aside0.mk (blk_below (g := gb266) (o := .cells #[.int .i64 a1_0, .int .i64 a1_1] 45 (0, 0)) bk_ hb); have n1_ := Aside0.mk (blk_below (g := gb267) (o := .cells #[.int .i64 a2_0, .int .i64 a2_1] 45 (0, 0)) bk_ hb); have n2_ := Aside0.mk (below_step bw_ hb); clear BK266; clear BK267; clear HB; have BK266 := n0_; have BK267 := n1_; have HB := n2_; clear n0_ n1_ n2_; (try clear hb); (try clear hb2); (try clear hk); (try clear hi)))
                      go_meet
                      case rel => exact ⟨_, (!t334), (by first | rfl | (simp; done) | (simp [*]; done)), H', ⟨by have := HJ19.out; have := HJ88.out; have := HJ125.out; have := HJ135.out; have := HJ182.out; first | omega | exact Nat.le_refl _⟩, ⟨by (with_reducible repeat (first | refine blk_drewN ?_ _ | refine blk_drew ?_ | refine blk_alloc ?_ _)); exact BK266.out⟩, ⟨by (with_reducible repeat (first | refine blk_drewN ?_ _ | refine blk_drew ?_ | refine blk_alloc ?_ _)); exact BK267.out⟩, ⟨bw_⟩⟩
                     ·
                      replace c266 := Bool.eq_false_iff.mpr c266
                      subst c266
                      rw [if_neg (show ¬ (false = true) by decide)] at H
                      have H' := Aside0.mk H
                      clear H
                      go_wp2_with (first | (go_at_call 40; (with_reducible refine (impl_AreRunners.calls a4 _ _ l5 t337 _ ?side1 ?side2 A261.out).mono ?_); (case side1 => repeat (first | exact (Kd.C_below HR5.out HB.out) | (with_reducible refine Kd.C_alloc ?_ _) | (with_reducible refine Kd.C_drewN ?_ _) | (with_reducible refine Kd.C_drew ?_))); (case side2 => exact HC5.out); rintro e w270 ⟨rfl, hb⟩; have n0_ := Aside0.mk (blk_below (g := gb266) (o := .cells #[.int .i64 a1_0, .int .i64 a1_1] 45 (0, 0)) bk_ hb); have n1_ := Aside0.mk (blk_below (g := gb267) (o := .cells #[.int .i64 a2_0, .int .i64 a2_1] 45 (0, 0)) bk_ hb); have n2_ := Aside0.mk (below_step bw_ hb); clear BK266; clear BK267; clear HB; have BK266 := n0_; have BK267 := n1_; have HB := n2_; clear n0_ n1_ n2_; (try clear hb); (try clear hb2); (try clear hk); (try clear hi)) | (go_at_call 40; (with_reducible refine (impl_AreRunners.calls a4 _ _ l5 t337 _ ?side1 ?side2 A263.out).mono ?_); (case side1 => repeat (first | exact (Kd.C_below HR5.out HB.out) | (with_reducible refine Kd.C_alloc ?_ _) | (with_reducible refine Kd.C_drewN ?_ _) | (with_reducible refine Kd.C_drew ?_))); (case side2 => exact HC5.out); rintro e w271 ⟨rfl, hb⟩; have n0_ := Aside0.mk (blk_below (g := gb266) (o := .cells #[.int .i64 a1_0, .int .i64 a1_1] 45 (0, 0)) bk_ hb); have n1_ := Aside0.mk (blk_below (g := gb267) (o := .cells #[.int .i64 a2_0, .int .i64 a2_1] 45 (0, 0)) bk_ hb); have n2_ := Aside0.mk (below_step bw_ hb); clear BK266; clear BK267; clear HB; have BK266 := n0_; have BK267 := n1_; have HB := n2_; clear n0_ n1_ n2_; (try clear hb); (try clear hb2); (try clear hk); (try clear hi)) | (go_at_call 41; (with_reducible refine (spec_AreRunners.calls kj182 a4 _ _ l5 t339 _ ?side1 ?side2 A264.out).mono ?_); (case side1 => repeat (first | exact (Kd.C_below HR5.out HB.out) | (with_reducible refine Kd.C_alloc ?_ _) | (with_reducible refine Kd.C_drewN ?_ _) | (with_reducible refine Kd.C_drew ?_))); (case side2 => exact HC5.out); rintro e w272 ⟨rfl, hb⟩; have n0_ := Aside0.mk (blk_below (g := gb266) (o := .cells #[.int .i64 a1_0, .int .i64 a1_1] 45 (0, 0)) bk_ hb); have n1_ := Aside0.mk (blk_below (g := gb267) (o := .cells #[.int .i64 a2_0, .int .i64 a2_1] 45 (0, 0)) bk_ hb); have n2_ := Aside0.mk (below_step bw_ hb); clear BK266; clear BK267; clear HB; have BK266 := n0_; have BK267 := n1_; have HB := n2_; clear n0_ n1_ n2_; (try clear hb); (try clear hb2); (try clear hk); (try clear hi)))
                      go_meet
                      case rel => exact ⟨_, (false), (by first | rfl | (simp; done) | (simp [*]; done)), H', ⟨by have := HJ19.out; have := HJ88.out; have := HJ125.out; have := HJ135.out; have := HJ182.out; first | omega | exact Nat.le_refl _⟩, ⟨by (with_reducible repeat (first | refine blk_drewN ?_ _ | refine blk_drew ?_ | refine blk_alloc ?_ _)); exact BK266.out⟩, ⟨by (with_reducible repeat (first | refine blk_drewN ?_ _ | refine blk_drew ?_ | refine blk_alloc ?_ _)); exact BK267.out⟩, ⟨bw_⟩⟩
                  ·
                   rw [if_neg c260] at H
                   have c260b0 : (t333 == t335) = false := beq_eq_false_iff_ne.mpr c260
                   have c260b1 : (t333 != t335) = true := bne_iff_ne.mpr c260
                   exact absurd (H.trans (congrArg some HRT.out)) (by cases kj182 <;> simp [laws_FnRunnersMeetOfAll.j12])
                ·
                 rw [if_neg c258] at H
                 have c258b0 : (t329 == t331) = false := beq_eq_false_iff_ne.mpr c258
                 have c258b1 : (t329 != t331) = true := bne_iff_ne.mpr c258
                 exact absurd (H.trans (congrArg some HRT.out)) (by cases kj182 <;> simp [laws_FnRunnersMeetOfAll.j12])
              case rest => as_aux_lemma =>
               clear HC252
               (try clear c5); (try clear c7); (try clear c88); (try clear c135); (try clear hcz24_0); (try clear hcz24_1); (try clear hcz25_0); (try clear hcz25_1); (try clear hcz27_0); (try clear hcz27_1); (try clear hcz28_0); (try clear hcz28_1); (try clear hcz30_0); (try clear hcz30_1); (try clear hcz31_0); (try clear hcz31_1); (try clear hcz33_0); (try clear hcz33_1); (try clear hcz34_0); (try clear hcz34_1); (try clear hcz36_0); (try clear hcz36_1); (try clear hcz37_0); (try clear hcz37_1); (try clear hcz39_0); (try clear hcz39_1); (try clear hcz40_0); (try clear hcz40_1); (try clear hcz42_0); (try clear hcz42_1); (try clear hcz43_0); (try clear hcz43_1); (try clear hcz45_0); (try clear hcz45_1); (try clear hcz46_0); (try clear hcz46_1); (try clear hcz48_0); (try clear hcz48_1); (try clear hcz49_0); (try clear hcz49_1); (try clear hcz51_0); (try clear hcz51_1); (try clear hcz52_0); (try clear hcz52_1); (try clear hfz24_0); (try clear hfz24_1); (try clear hfz25_0); (try clear hfz25_1); (try clear hfz27_0); (try clear hfz27_1); (try clear hfz28_0); (try clear hfz28_1); (try clear hfz30_0); (try clear hfz30_1); (try clear hfz31_0); (try clear hfz31_1); (try clear hfz33_0); (try clear hfz33_1); (try clear hfz34_0); (try clear hfz34_1); (try clear hfz36_0); (try clear hfz36_1); (try clear hfz37_0); (try clear hfz37_1); (try clear hfz39_0); (try clear hfz39_1); (try clear hfz40_0); (try clear hfz40_1); (try clear hfz42_0); (try clear hfz42_1); (try clear hfz43_0); (try clear hfz43_1); (try clear hfz45_0); (try clear hfz45_1); (try clear hfz46_0); (try clear hfz46_1); (try clear hfz48_0); (try clear hfz48_1); (try clear hfz49_0); (try clear hfz49_1); (try clear hfz51_0); (try clear hfz51_1); (try clear hfz52_0); (try clear hfz52_1)
               obtain ⟨kq, x581_251, rfl, HA, HJ251, BK266, BK267, HB⟩ := hcut
               cases kq with
               | zero => exact absurd HA.out (by simp [laws_FnRunnersMeetOfAll.j12])
               | succ kj251 =>
                have H := HA.out
                clear HA
                simp only [laws_FnRunnersMeetOfAll.j12] at H
                by_cases c273 : x581_251 = true
                ·
                 subst c273
                 rw [if_pos rfl] at H
                 exact absurd ((Option.some.inj H).trans HRT.out) (by decide)
                ·
                 replace c273 := Bool.eq_false_iff.mpr c273
                 subst c273
                 rw [if_neg (show ¬ (false = true) by decide)] at H
                 by_cases c274 : t334 = true
                 ·
                  subst c274
                  rw [if_pos rfl] at H
                  have HC275 := Aside0.mk H
                  clear H
                  go_upto_region 66 with (fail)
                  go_cut [607] from 583 to 607 (fun v607 wc => ∃ (kq : Nat) (x607_274 : Bool), v607 = .bool x607_274 ∧ Aside0 (laws_FnRunnersMeetOfAll.j13 kq a4 l5 t329 t330 t333 x607_274 = some r) ∧ Aside0 (kq ≤ kj251) ∧ Aside0 (wc.heap[gb266]? = some (.cells #[.int .i64 a1_0, .int .i64 a1_1] 45 (0, 0))) ∧ Aside0 (wc.heap[gb267]? = some (.cells #[.int .i64 a2_0, .int .i64 a2_1] 45 (0, 0))) ∧ Aside0 (Below w.heap.size w wc))
                  case first => as_aux_lemma =>
                   have H := HC275.out
                   clear HC275
                   by_cases c276 : t333 < 1
                   ·
                    rw [if_pos c276] at H
                    have c276b0 : decide (t333 < 1) = true := decide_eq_true c276
                    clear c276
                    (first | rw [c276b0] | (simp only [i64_w, i32_w]; rw [c276b0]) | skip)
                    exact absurd (H.trans (congrArg some HRT.out)) (by cases kj251 <;> simp [laws_FnRunnersMeetOfAll.j13])
                   ·
                    rw [if_neg c276] at H
                    have c276b0 : decide (t333 < 1) = false := decide_eq_false c276
                    clear c276
                    (first | rw [c276b0] | (simp only [i64_w, i32_w]; rw [c276b0]) | skip)
                    by_cases c277 : t333 > a4
                    ·
                     rw [if_pos c277] at H
                     have c277b0 : decide (a4 < t333) = true := decide_eq_true c277
                     clear c277
                     exact absurd (H.trans (congrArg some HRT.out)) (by cases kj251 <;> simp [laws_FnRunnersMeetOfAll.j13])
                    ·
                     rw [if_neg c277] at H
                     have c277b0 : decide (a4 < t333) = false := decide_eq_false c277
                     clear c277
                     by_cases c278 : t333 = 0
                     ·
                      rw [if_pos c278] at H
                      exact absurd H (by simp)
                     ·
                      rw [if_neg c278] at H
                      have c278b0 : (t333 == 0) = false := beq_eq_false_iff_ne.mpr c278
                      have c278b1 : (t333 != 0) = true := bne_iff_ne.mpr c278
                      by_cases c279 : (Int.tmod a4 t333) = 0
                      ·
                       rw [if_pos c279] at H
                       have c279b0 : ((Int.tmod a4 t333) == 0) = true := beq_iff_eq.mpr c279
                       have c279b1 : ((Int.tmod a4 t333) != 0) = false := bne_eq_false_iff_eq.mpr c279
                       clear c279
                       by_cases c280 : t330 = true
                       ·
                        subst c280
                        rw [if_pos rfl] at H
                        by_cases c281 : t329 < 0
                        ·
                         rw [if_pos c281] at H
                         have c281b0 : decide (t329 < 0) = true := decide_eq_true c281
                         clear c281
                         exact absurd (H.trans (congrArg some HRT.out)) (by cases kj251 <;> simp [laws_FnRunnersMeetOfAll.j13])
                        ·
                         rw [if_neg c281] at H
                         have c281b0 : decide (t329 < 0) = false := decide_eq_false c281
                         clear c281
                         have H' := Aside0.mk H
                         clear H
                         go_wp2
                         go_meet
                         case rel => exact ⟨_, (decide (t329 ≥ t333)), (by first | rfl | (simp; done) | (simp [*]; done)), H', ⟨by have := HJ19.out; have := HJ88.out; have := HJ125.out; have := HJ135.out; have := HJ182.out; have := HJ251.out; first | omega | exact Nat.le_refl _⟩, ⟨by (with_reducible repeat (first | refine blk_drewN ?_ _ | refine blk_drew ?_ | refine blk_alloc ?_ _)); exact BK266.out⟩, ⟨by (with_reducible repeat (first | refine blk_drewN ?_ _ | refine blk_drew ?_ | refine blk_alloc ?_ _)); exact BK267.out⟩, ⟨bw_⟩⟩
                       ·
                        replace c280 := Bool.eq_false_iff.mpr c280
                        subst c280
                        rw [if_neg (show ¬ (false = true) by decide)] at H
                        have H' := Aside0.mk H
                        clear H
                        go_wp2
                        go_meet
                        case rel => exact ⟨_, (false), (by first | rfl | (simp; done) | (simp [*]; done)), H', ⟨by have := HJ19.out; have := HJ88.out; have := HJ125.out; have := HJ135.out; have := HJ182.out; have := HJ251.out; first | omega | exact Nat.le_refl _⟩, ⟨by (with_reducible repeat (first | refine blk_drewN ?_ _ | refine blk_drew ?_ | refine blk_alloc ?_ _)); exact BK266.out⟩, ⟨by (with_reducible repeat (first | refine blk_drewN ?_ _ | refine blk_drew ?_ | refine blk_alloc ?_ _)); exact BK267.out⟩, ⟨bw_⟩⟩
                      ·
                       rw [if_neg c279] at H
                       have c279b0 : ((Int.tmod a4 t333) == 0) = false := beq_eq_false_iff_ne.mpr c279
                       have c279b1 : ((Int.tmod a4 t333) != 0) = true := bne_iff_ne.mpr c279
                       exact absurd (H.trans (congrArg some HRT.out)) (by cases kj251 <;> simp [laws_FnRunnersMeetOfAll.j13])
                  case rest => as_aux_lemma =>
                   clear HC275
                   (try clear c5); (try clear c7); (try clear c88); (try clear c135); (try clear c273); (try clear c274); (try clear hcz24_0); (try clear hcz24_1); (try clear hcz25_0); (try clear hcz25_1); (try clear hcz27_0); (try clear hcz27_1); (try clear hcz28_0); (try clear hcz28_1); (try clear hcz30_0); (try clear hcz30_1); (try clear hcz31_0); (try clear hcz31_1); (try clear hcz33_0); (try clear hcz33_1); (try clear hcz34_0); (try clear hcz34_1); (try clear hcz36_0); (try clear hcz36_1); (try clear hcz37_0); (try clear hcz37_1); (try clear hcz39_0); (try clear hcz39_1); (try clear hcz40_0); (try clear hcz40_1); (try clear hcz42_0); (try clear hcz42_1); (try clear hcz43_0); (try clear hcz43_1); (try clear hcz45_0); (try clear hcz45_1); (try clear hcz46_0); (try clear hcz46_1); (try clear hcz48_0); (try clear hcz48_1); (try clear hcz49_0); (try clear hcz49_1); (try clear hcz51_0); (try clear hcz51_1); (try clear hcz52_0); (try clear hcz52_1); (try clear hfz24_0); (try clear hfz24_1); (try clear hfz25_0); (try clear hfz25_1); (try clear hfz27_0); (try clear hfz27_1); (try clear hfz28_0); (try clear hfz28_1); (try clear hfz30_0); (try clear hfz30_1); (try clear hfz31_0); (try clear hfz31_1); (try clear hfz33_0); (try clear hfz33_1); (try clear hfz34_0); (try clear hfz34_1); (try clear hfz36_0); (try clear hfz36_1); (try clear hfz37_0); (try clear hfz37_1); (try clear hfz39_0); (try clear hfz39_1); (try clear hfz40_0); (try clear hfz40_1); (try clear hfz42_0); (try clear hfz42_1); (try clear hfz43_0); (try clear hfz43_1); (try clear hfz45_0); (try clear hfz45_1); (try clear hfz46_0); (try clear hfz46_1); (try clear hfz48_0); (try clear hfz48_1); (try clear hfz49_0); (try clear hfz49_1); (try clear hfz51_0); (try clear hfz51_1); (try clear hfz52_0); (try clear hfz52_1)
                   obtain ⟨kq, x607_274, rfl, HA, HJ274, BK266, BK267, HB⟩ := hcut
                   cases kq with
                   | zero => exact absurd HA.out (by simp [laws_FnRunnersMeetOfAll.j13])
                   | succ kj274 =>
                    have H := HA.out
                    clear HA
                    simp only [laws_FnRunnersMeetOfAll.j13] at H
                    by_cases c282 : x607_274 = true
                    ·
                     subst c282
                     rw [if_pos rfl] at H
                     exact absurd ((Option.some.inj H).trans HRT.out) (by decide)
                    ·
                     replace c282 := Bool.eq_false_iff.mpr c282
                     subst c282
                     rw [if_neg (show ¬ (false = true) by decide)] at H
                     have H' := Aside0.mk H
                     clear H
                     go_wp2
                     go_loopg [64, 610] kj274 (fun kq v64 v610 w' => ∃ (x64_8 : Int) (x610_8 : Int), v64 = .int .i64 x64_8 ∧ v610 = .int .i64 x610_8 ∧ Aside0 (laws_FnRunnersMeetOfAll.l3 kq a4 l5 t329 t330 t333 x64_8 l5 (l5.length : Int) x610_8 = some r) ∧ Aside0 (kq ≤ kj274) ∧ Aside0 (w'.heap[gb266]? = some (.cells #[.int .i64 a1_0, .int .i64 a1_1] 45 (0, 0))) ∧ Aside0 (w'.heap[gb267]? = some (.cells #[.int .i64 a2_0, .int .i64 a2_1] 45 (0, 0))) ∧ Aside0 (Below w.heap.size w w'))
                     case atStart => exact ⟨((-1)), (0), (by first | rfl | (simp; done) | (simp [*]; done)), (by first | rfl | (simp; done) | (simp [*]; done)), H', ⟨Nat.le_refl _⟩, ⟨by (with_reducible repeat (first | refine blk_drewN ?_ _ | refine blk_drew ?_ | refine blk_alloc ?_ _)); exact BK266.out⟩, ⟨by (with_reducible repeat (first | refine blk_drewN ?_ _ | refine blk_drew ?_ | refine blk_alloc ?_ _)); exact BK267.out⟩, ⟨bw_⟩⟩
                     case round => as_aux_lemma =>
                      clear H'
                      (try clear c5); (try clear c7); (try clear c88); (try clear c135); (try clear c273); (try clear c274); (try clear c282); (try clear hcz24_0); (try clear hcz24_1); (try clear hcz25_0); (try clear hcz25_1); (try clear hcz27_0); (try clear hcz27_1); (try clear hcz28_0); (try clear hcz28_1); (try clear hcz30_0); (try clear hcz30_1); (try clear hcz31_0); (try clear hcz31_1); (try clear hcz33_0); (try clear hcz33_1); (try clear hcz34_0); (try clear hcz34_1); (try clear hcz36_0); (try clear hcz36_1); (try clear hcz37_0); (try clear hcz37_1); (try clear hcz39_0); (try clear hcz39_1); (try clear hcz40_0); (try clear hcz40_1); (try clear hcz42_0); (try clear hcz42_1); (try clear hcz43_0); (try clear hcz43_1); (try clear hcz45_0); (try clear hcz45_1); (try clear hcz46_0); (try clear hcz46_1); (try clear hcz48_0); (try clear hcz48_1); (try clear hcz49_0); (try clear hcz49_1); (try clear hcz51_0); (try clear hcz51_1); (try clear hcz52_0); (try clear hcz52_1); (try clear hfz24_0); (try clear hfz24_1); (try clear hfz25_0); (try clear hfz25_1); (try clear hfz27_0); (try clear hfz27_1); (try clear hfz28_0); (try clear hfz28_1); (try clear hfz30_0); (try clear hfz30_1); (try clear hfz31_0); (try clear hfz31_1); (try clear hfz33_0); (try clear hfz33_1); (try clear hfz34_0); (try clear hfz34_1); (try clear hfz36_0); (try clear hfz36_1); (try clear hfz37_0); (try clear hfz37_1); (try clear hfz39_0); (try clear hfz39_1); (try clear hfz40_0); (try clear hfz40_1); (try clear hfz42_0); (try clear hfz42_1); (try clear hfz43_0); (try clear hfz43_1); (try clear hfz45_0); (try clear hfz45_1); (try clear hfz46_0); (try clear hfz46_1); (try clear hfz48_0); (try clear hfz48_1); (try clear hfz49_0); (try clear hfz49_1); (try clear hfz51_0); (try clear hfz51_1); (try clear hfz52_0); (try clear hfz52_1)
                      obtain ⟨x64_8, x610_8, rfl, rfl, HA, HK8, BK266, BK267, HB⟩ := hrel
                      cases gk with
                      | zero => exact absurd HA.out (by simp [laws_FnRunnersMeetOfAll.l3])
                      | succ k8 =>
                       have H := HA.out
                       clear HA
                       simp only [laws_FnRunnersMeetOfAll.l3] at H
                       by_cases c283 : x610_8 < (l5.length : Int)
                       ·
                        rw [if_pos c283] at H
                        have c283b0 : decide (x610_8 < (l5.length : Int)) = true := decide_eq_true c283
                        clear c283
                        by_cases c284 : 0 ≤ x610_8
                        ·
                         rw [if_pos c284] at H
                         have c284b0 : decide (0 ≤ x610_8) = true := decide_eq_true c284
                         clear c284
                         by_cases c285 : x610_8 < (l5.length : Int)
                         ·
                          rw [if_pos c285] at H
                          have c285b0 : decide (x610_8 < (l5.length : Int)) = true := decide_eq_true c285
                          clear c285
                          replace H := Option.bind_eq_some_iff.mp H
                          obtain ⟨⟨t342, t343⟩, A2860, H⟩ := H
                          (try dsimp only at H)
                          have A286 := Aside0.mk A2860
                          clear A2860
                          have HC287 := Aside0.mk H
                          clear H
                          have p340 : 0 ≤ (x610_8 : Int) := of_decide_eq_true (by first | (with_reducible assumption) | assumption)
                          have q340 : x610_8 < (l5.length : Int) := of_decide_eq_true (by first | (with_reducible assumption) | assumption)
                          obtain ⟨ad340, e340, hx340_0, hx340_1⟩ := at_T45 HR5.out x610_8 p340 q340
                          cases e340
                          replace hx340_0 := (HB.out.cell (World.block_lt_of_cell? w _ hx340_0)).trans hx340_0
                          replace hx340_1 := (HB.out.cell (World.block_lt_of_cell? w _ hx340_1)).trans hx340_1
                          replace p340 := eq_true p340
                          replace q340 := eq_true q340
                          go_upto_region 73 with (first | ((with_reducible refine gate_dst (N := 66) rfl ?_); (try (refine gate_guard (by rfl) ?_; dsimp only)); refine box_event ?hg (N := 66) ?hd (cs := #[.int .i64 0, .int .i64 0]) (t := 45) ?hr ?_; (case hd => rfl); (case hg => rfl); (case hr => first | (go_simp; done) | (go_simp; rfl)); intro gb341 hg w288 hbox hb; have n0_ := Aside0.mk (blk_below (g := gb266) (o := .cells #[.int .i64 a1_0, .int .i64 a1_1] 45 (0, 0)) bk_ hb); have n1_ := Aside0.mk (blk_below (g := gb267) (o := .cells #[.int .i64 a2_0, .int .i64 a2_1] 45 (0, 0)) bk_ hb); have n2_ := Aside0.mk (below_step bw_ hb); have n3_ := Aside0.mk (hbox); have n4_ := Aside0.mk ((by rw [hg]; exact (below_size bw_) : w.heap.size ≤ gb341)); have n5_ := Aside0.mk ((by rw [hg]; exact (below_size bw_) : w.heap.size ≤ gb341)); have n6_ := Aside0.mk ((by rw [hg]; exact Nat.ne_of_lt (blk_lt (g := gb266) (o := .cells #[.int .i64 a1_0, .int .i64 a1_1] 45 (0, 0)) bk_) : gb266 ≠ gb341)); have n7_ := Aside0.mk ((by rw [hg]; exact Nat.ne_of_gt (blk_lt (g := gb266) (o := .cells #[.int .i64 a1_0, .int .i64 a1_1] 45 (0, 0)) bk_) : gb341 ≠ gb266)); have n8_ := Aside0.mk ((by rw [hg]; exact Nat.ne_of_lt (blk_lt (g := gb267) (o := .cells #[.int .i64 a2_0, .int .i64 a2_1] 45 (0, 0)) bk_) : gb267 ≠ gb341)); have n9_ := Aside0.mk ((by rw [hg]; exact Nat.ne_of_gt (blk_lt (g := gb267) (o := .cells #[.int .i64 a2_0, .int .i64 a2_1] 45 (0, 0)) bk_) : gb341 ≠ gb267)); clear BK266; clear BK267; clear HB; have BK266 := n0_; have BK267 := n1_; have HB := n2_; have BK341 := n3_; have GW341 := n4_; have GE341 := n5_; have NB266_341 := n6_; have NB341_266 := n7_; have NB267_341 := n8_; have NB341_267 := n9_; clear n0_ n1_ n2_ n3_ n4_ n5_ n6_ n7_ n8_ n9_; clear hb hbox hg; have hnb289 := NB341_266.out; have hnc289 := NB266_341.out; have hnb290 := NB341_267.out; have hnc290 := NB267_341.out; have hcz291_0 : w288.cell? ⟨gb341, 0, none⟩ = some (.int .i64 0) := (blk_cell BK341.out 0).trans rfl; have hcz291_1 : w288.cell? ⟨gb341, 1, none⟩ = some (.int .i64 0) := (blk_cell BK341.out 1).trans rfl; have hfz291_0 := blk_frozen BK341.out 0; have hfz291_1 := blk_frozen BK341.out 1) | ((with_reducible refine gate_callee (f := 34) rfl ?_); refine goesL_ (some 618) rfl rfl Try.func34 (by kernel_rfl) rfl #[.int .i64 a4, .agg #[.int .i64 ((rd_T45 l5 x610_8).f0), .int .i64 ((rd_T45 l5 x610_8).f1)], .int .i64 t333] rfl (by (try simp only [List.map_toArray, List.map_cons, List.map_nil]); first | done | rfl | (simp only [List.length_drop, List.length_take]; rfl)) ?_; (with_reducible refine (impl_PlaceOnTrack.calls a4 ((rd_T45 l5 x610_8).f0) ((rd_T45 l5 x610_8).f1) t333 t342 t343 _ A286.out).mono ?_); rintro e w292 ⟨rfl, hb⟩; refine ⟨_, rfl, ?_⟩; have n0_ := Aside0.mk (blk_below (g := gb266) (o := .cells #[.int .i64 a1_0, .int .i64 a1_1] 45 (0, 0)) (by (with_reducible repeat (first | refine blk_drewN ?_ _ | refine blk_drew ?_ | refine blk_alloc ?_ _)); refine blk_far ?_ NB266_341.out _; (with_reducible repeat (first | refine blk_drewN ?_ _ | refine blk_drew ?_ | refine blk_alloc ?_ _)); refine blk_far ?_ NB266_341.out _; (with_reducible repeat (first | refine blk_drewN ?_ _ | refine blk_drew ?_ | refine blk_alloc ?_ _)); exact BK266.out) hb); have n1_ := Aside0.mk (blk_below (g := gb267) (o := .cells #[.int .i64 a2_0, .int .i64 a2_1] 45 (0, 0)) (by (with_reducible repeat (first | refine blk_drewN ?_ _ | refine blk_drew ?_ | refine blk_alloc ?_ _)); refine blk_far ?_ NB267_341.out _; (with_reducible repeat (first | refine blk_drewN ?_ _ | refine blk_drew ?_ | refine blk_alloc ?_ _)); refine blk_far ?_ NB267_341.out _; (with_reducible repeat (first | refine blk_drewN ?_ _ | refine blk_drew ?_ | refine blk_alloc ?_ _)); exact BK267.out) hb); have n2_ := Aside0.mk (blk_below (g := gb341) (o := .cells #[.int .i64 ((rd_T45 l5 x610_8).f0), .int .i64 ((rd_T45 l5 x610_8).f1)] 45 (0, 0)) (by (with_reducible repeat (first | refine blk_drewN ?_ _ | refine blk_drew ?_ | refine blk_alloc ?_ _)); refine blk_put (cs := #[.int .i64 ((rd_T45 l5 x610_8).f0), .int .i64 0]) ?_ 1 _ rfl; (with_reducible repeat (first | refine blk_drewN ?_ _ | refine blk_drew ?_ | refine blk_alloc ?_ _)); refine blk_put (cs := #[.int .i64 0, .int .i64 0]) ?_ 0 _ rfl; (with_reducible repeat (first | refine blk_drewN ?_ _ | refine blk_drew ?_ | refine blk_alloc ?_ _)); exact BK341.out) hb); have n3_ := Aside0.mk (below_step bw_ hb); clear BK266; clear BK267; clear BK341; clear HB; have BK266 := n0_; have BK267 := n1_; have BK341 := n2_; have HB := n3_; clear n0_ n1_ n2_ n3_; (try clear hb); (try clear hb2); (try clear hk); (try clear hi)))
                          (try simp only [Act.put, List.setIfInBounds_toArray, List.set_cons_zero, List.set_cons_succ])
                          go_cut [628] from 621 to 628 (fun v628 wc => ∃ (kq : Nat) (x628_286 : Bool), v628 = .bool x628_286 ∧ Aside0 (laws_FnRunnersMeetOfAll.j15 kq a4 l5 t329 t330 t333 x64_8 l5 (l5.length : Int) x610_8 x628_286 ((rd_T45 l5 x610_8).f0) ((rd_T45 l5 x610_8).f1) = some r) ∧ Aside0 (kq ≤ k8) ∧ Aside0 (wc.heap[gb266]? = some (.cells #[.int .i64 a1_0, .int .i64 a1_1] 45 (0, 0))) ∧ Aside0 (wc.heap[gb267]? = some (.cells #[.int .i64 a2_0, .int .i64 a2_1] 45 (0, 0))) ∧ Aside0 (wc.heap[gb341]? = some (.cells #[.int .i64 ((rd_T45 l5 x610_8).f0), .int .i64 ((rd_T45 l5 x610_8).f1)] 45 (0, 0))) ∧ Aside0 (Below w.heap.size w wc))
                          case first => as_aux_lemma =>
                           have H := HC287.out
                           clear HC287
                           by_cases c293 : t343 = true
                           ·
                            subst c293
                            rw [if_pos rfl] at H
                            have H' := Aside0.mk H
                            clear H
                            have hnb294 := NB341_266.out
                            have hnc294 := NB266_341.out
                            have hnb295 := NB341_267.out
                            have hnc295 := NB267_341.out
                            have hcz296_0 : w292.cell? ⟨gb341, 0, none⟩ = some (.int .i64 ((rd_T45 l5 x610_8).f0)) := (blk_cell BK341.out 0).trans rfl
                            have hcz296_1 : w292.cell? ⟨gb341, 1, none⟩ = some (.int .i64 ((rd_T45 l5 x610_8).f1)) := (blk_cell BK341.out 1).trans rfl
                            have hfz296_0 := blk_frozen BK341.out 0
                            have hfz296_1 := blk_frozen BK341.out 1
                            go_wp2
                            go_meet
                            case rel => exact ⟨_, ((t342 != ((rd_T45 l5 x610_8).f0))), (by first | rfl | (simp; done) | (simp [*]; done)), H', ⟨by have := HJ19.out; have := HJ88.out; have := HJ125.out; have := HJ135.out; have := HJ182.out; have := HJ251.out; have := HJ274.out; have := HK8.out; first | omega | exact Nat.le_refl _⟩, ⟨by (with_reducible repeat (first | refine blk_drewN ?_ _ | refine blk_drew ?_ | refine blk_alloc ?_ _)); exact BK266.out⟩, ⟨by (with_reducible repeat (first | refine blk_drewN ?_ _ | refine blk_drew ?_ | refine blk_alloc ?_ _)); exact BK267.out⟩, ⟨by (with_reducible repeat (first | refine blk_drewN ?_ _ | refine blk_drew ?_ | refine blk_alloc ?_ _)); exact BK341.out⟩, ⟨bw_⟩⟩
                           ·
                            replace c293 := Bool.eq_false_iff.mpr c293
                            subst c293
                            rw [if_neg (show ¬ (false = true) by decide)] at H
                            exact absurd (H.trans (congrArg some HRT.out)) (by cases k8 <;> simp [laws_FnRunnersMeetOfAll.j15])
                          case rest => as_aux_lemma =>
                           clear HC287
                           (try clear c5); (try clear c7); (try clear c88); (try clear c135); (try clear c273); (try clear c274); (try clear c282); (try clear c283); (try clear c283b0); (try clear c284); (try clear c284b0); (try clear c285); (try clear c285b0); (try clear hcz24_0); (try clear hcz24_1); (try clear hcz25_0); (try clear hcz25_1); (try clear hcz27_0); (try clear hcz27_1); (try clear hcz28_0); (try clear hcz28_1); (try clear hcz291_0); (try clear hcz291_1); (try clear hcz30_0); (try clear hcz30_1); (try clear hcz31_0); (try clear hcz31_1); (try clear hcz33_0); (try clear hcz33_1); (try clear hcz34_0); (try clear hcz34_1); (try clear hcz36_0); (try clear hcz36_1); (try clear hcz37_0); (try clear hcz37_1); (try clear hcz39_0); (try clear hcz39_1); (try clear hcz40_0); (try clear hcz40_1); (try clear hcz42_0); (try clear hcz42_1); (try clear hcz43_0); (try clear hcz43_1); (try clear hcz45_0); (try clear hcz45_1); (try clear hcz46_0); (try clear hcz46_1); (try clear hcz48_0); (try clear hcz48_1); (try clear hcz49_0); (try clear hcz49_1); (try clear hcz51_0); (try clear hcz51_1); (try clear hcz52_0); (try clear hcz52_1); (try clear hfz24_0); (try clear hfz24_1); (try clear hfz25_0); (try clear hfz25_1); (try clear hfz27_0); (try clear hfz27_1); (try clear hfz28_0); (try clear hfz28_1); (try clear hfz291_0); (try clear hfz291_1); (try clear hfz30_0); (try clear hfz30_1); (try clear hfz31_0); (try clear hfz31_1); (try clear hfz33_0); (try clear hfz33_1); (try clear hfz34_0); (try clear hfz34_1); (try clear hfz36_0); (try clear hfz36_1); (try clear hfz37_0); (try clear hfz37_1); (try clear hfz39_0); (try clear hfz39_1); (try clear hfz40_0); (try clear hfz40_1); (try clear hfz42_0); (try clear hfz42_1); (try clear hfz43_0); (try clear hfz43_1); (try clear hfz45_0); (try clear hfz45_1); (try clear hfz46_0); (try clear hfz46_1); (try clear hfz48_0); (try clear hfz48_1); (try clear hfz49_0); (try clear hfz49_1); (try clear hfz51_0); (try clear hfz51_1); (try clear hfz52_0); (try clear hfz52_1); (try clear hx340_0); (try clear hx340_1); (try clear p340); (try clear q340)
                           obtain ⟨kq, x628_286, rfl, HA, HJ286, BK266, BK267, BK341, HB⟩ := hcut
                           cases kq with
                           | zero => exact absurd HA.out (by simp [laws_FnRunnersMeetOfAll.j15])
                           | succ kj286 =>
                            have H := HA.out
                            clear HA
                            simp only [laws_FnRunnersMeetOfAll.j15] at H
                            by_cases c297 : x628_286 = true
                            ·
                             subst c297
                             rw [if_pos rfl] at H
                             exact absurd ((Option.some.inj H).trans HRT.out) (by decide)
                            ·
                             replace c297 := Bool.eq_false_iff.mpr c297
                             subst c297
                             rw [if_neg (show ¬ (false = true) by decide)] at H
                             by_cases c298 : t330 = true
                             ·
                              subst c298
                              rw [if_pos rfl] at H
                              replace H := Option.bind_eq_some_iff.mp H
                              obtain ⟨⟨t344, t345⟩, A2990, H⟩ := H
                              (try dsimp only at H)
                              have A299 := Aside0.mk A2990
                              clear A2990
                              by_cases c300 : t345 = true
                              ·
                               subst c300
                               rw [if_pos rfl] at H
                               by_cases c301 : x64_8 ≥ 0
                               ·
                                rw [if_pos c301] at H
                                have c301b0 : decide (0 ≤ x64_8) = true := decide_eq_true c301
                                clear c301
                                by_cases c302 : t344 = x64_8
                                ·
                                 rw [if_pos c302] at H
                                 have c302b0 : (t344 == x64_8) = true := beq_iff_eq.mpr c302
                                 have c302b1 : (t344 != x64_8) = false := bne_eq_false_iff_eq.mpr c302
                                 clear c302
                                 have H' := Aside0.mk H
                                 clear H
                                 have hnb303 := NB341_266.out
                                 have hnc303 := NB266_341.out
                                 have hnb304 := NB341_267.out
                                 have hnc304 := NB267_341.out
                                 have hcz305_0 : wc.cell? ⟨gb341, 0, none⟩ = some (.int .i64 ((rd_T45 l5 x610_8).f0)) := (blk_cell BK341.out 0).trans rfl
                                 have hcz305_1 : wc.cell? ⟨gb341, 1, none⟩ = some (.int .i64 ((rd_T45 l5 x610_8).f1)) := (blk_cell BK341.out 1).trans rfl
                                 have hfz305_0 := blk_frozen BK341.out 0
                                 have hfz305_1 := blk_frozen BK341.out 1
                                 go_wp2_with (first | ((with_reducible refine gate_callee (f := 34) rfl ?_); refine goesL_ (some 634) rfl rfl Try.func34 (by kernel_rfl) rfl #[.int .i64 a4, .agg #[.int .i64 ((rd_T45 l5 x610_8).f0), .int .i64 ((rd_T45 l5 x610_8).f1)], .int .i64 t329] rfl (by (try simp only [List.map_toArray, List.map_cons, List.map_nil]); first | done | rfl | (simp only [List.length_drop, List.length_take]; rfl)) ?_; (with_reducible refine (impl_PlaceOnTrack.calls a4 ((rd_T45 l5 x610_8).f0) ((rd_T45 l5 x610_8).f1) t329 t344 true _ A299.out).mono ?_); rintro e w306 ⟨rfl, hb⟩; refine ⟨_, rfl, ?_⟩; have n0_ := Aside0.mk (blk_below (g := gb266) (o := .cells #[.int .i64 a1_0, .int .i64 a1_1] 45 (0, 0)) bk_ hb); have n1_ := Aside0.mk (blk_below (g := gb267) (o := .cells #[.int .i64 a2_0, .int .i64 a2_1] 45 (0, 0)) bk_ hb); have n2_ := Aside0.mk (blk_below (g := gb341) (o := .cells #[.int .i64 ((rd_T45 l5 x610_8).f0), .int .i64 ((rd_T45 l5 x610_8).f1)] 45 (0, 0)) bk_ hb); have n3_ := Aside0.mk (below_step bw_ hb); clear BK266; clear BK267; clear BK341; clear HB; have BK266 := n0_; have BK267 := n1_; have BK341 := n2_; have HB := n3_; clear n0_ n1_ n2_ n3_; (try clear hb); (try clear hb2); (try clear hk); (try clear hi)))
                                 go_roundg kj286
                                 case measure => have := HJ19.out; have := HJ88.out; have := HJ125.out; have := HJ135.out; have := HJ182.out; have := HJ251.out; have := HJ274.out; have := HK8.out; have := HJ286.out; omega
                                 case rel => exact ⟨(t344), (wrap64 (x610_8 + 1)), (by first | rfl | (simp; done) | (simp [*]; done)), (by first | rfl | (simp; done) | (simp [*]; done)), H', ⟨by have := HJ19.out; have := HJ88.out; have := HJ125.out; have := HJ135.out; have := HJ182.out; have := HJ251.out; have := HJ274.out; have := HK8.out; have := HJ286.out; omega⟩, ⟨by (with_reducible repeat (first | refine blk_drewN ?_ _ | refine blk_drew ?_ | refine blk_alloc ?_ _)); exact BK266.out⟩, ⟨by (with_reducible repeat (first | refine blk_drewN ?_ _ | refine blk_drew ?_ | refine blk_alloc ?_ _)); exact BK267.out⟩, ⟨bw_⟩⟩
                                ·
                                 rw [if_neg c302] at H
                                 have c302b0 : (t344 == x64_8) = false := beq_eq_false_iff_ne.mpr c302
                                 have c302b1 : (t344 != x64_8) = true := bne_iff_ne.mpr c302
                                 exact absurd ((Option.some.inj H).trans HRT.out) (by decide)
                               ·
                                rw [if_neg c301] at H
                                have c301b0 : decide (0 ≤ x64_8) = false := decide_eq_false c301
                                clear c301
                                have H' := Aside0.mk H
                                clear H
                                have hnb307 := NB341_266.out
                                have hnc307 := NB266_341.out
                                have hnb308 := NB341_267.out
                                have hnc308 := NB267_341.out
                                have hcz309_0 : wc.cell? ⟨gb341, 0, none⟩ = some (.int .i64 ((rd_T45 l5 x610_8).f0)) := (blk_cell BK341.out 0).trans rfl
                                have hcz309_1 : wc.cell? ⟨gb341, 1, none⟩ = some (.int .i64 ((rd_T45 l5 x610_8).f1)) := (blk_cell BK341.out 1).trans rfl
                                have hfz309_0 := blk_frozen BK341.out 0
                                have hfz309_1 := blk_frozen BK341.out 1
                                go_wp2_with (first | ((with_reducible refine gate_callee (f := 34) rfl ?_); refine goesL_ (some 634) rfl rfl Try.func34 (by kernel_rfl) rfl #[.int .i64 a4, .agg #[.int .i64 ((rd_T45 l5 x610_8).f0), .int .i64 ((rd_T45 l5 x610_8).f1)], .int .i64 t329] rfl (by (try simp only [List.map_toArray, List.map_cons, List.map_nil]); first | done | rfl | (simp only [List.length_drop, List.length_take]; rfl)) ?_; (with_reducible refine (impl_PlaceOnTrack.calls a4 ((rd_T45 l5 x610_8).f0) ((rd_T45 l5 x610_8).f1) t329 t344 true _ A299.out).mono ?_); rintro e w310 ⟨rfl, hb⟩; refine ⟨_, rfl, ?_⟩; have n0_ := Aside0.mk (blk_below (g := gb266) (o := .cells #[.int .i64 a1_0, .int .i64 a1_1] 45 (0, 0)) bk_ hb); have n1_ := Aside0.mk (blk_below (g := gb267) (o := .cells #[.int .i64 a2_0, .int .i64 a2_1] 45 (0, 0)) bk_ hb); have n2_ := Aside0.mk (blk_below (g := gb341) (o := .cells #[.int .i64 ((rd_T45 l5 x610_8).f0), .int .i64 ((rd_T45 l5 x610_8).f1)] 45 (0, 0)) bk_ hb); have n3_ := Aside0.mk (below_step bw_ hb); clear BK266; clear BK267; clear BK341; clear HB; have BK266 := n0_; have BK267 := n1_; have BK341 := n2_; have HB := n3_; clear n0_ n1_ n2_ n3_; (try clear hb); (try clear hb2); (try clear hk); (try clear hi)))
                                go_roundg kj286
                                case measure => have := HJ19.out; have := HJ88.out; have := HJ125.out; have := HJ135.out; have := HJ182.out; have := HJ251.out; have := HJ274.out; have := HK8.out; have := HJ286.out; omega
                                case rel => exact ⟨(t344), (wrap64 (x610_8 + 1)), (by first | rfl | (simp; done) | (simp [*]; done)), (by first | rfl | (simp; done) | (simp [*]; done)), H', ⟨by have := HJ19.out; have := HJ88.out; have := HJ125.out; have := HJ135.out; have := HJ182.out; have := HJ251.out; have := HJ274.out; have := HK8.out; have := HJ286.out; omega⟩, ⟨by (with_reducible repeat (first | refine blk_drewN ?_ _ | refine blk_drew ?_ | refine blk_alloc ?_ _)); exact BK266.out⟩, ⟨by (with_reducible repeat (first | refine blk_drewN ?_ _ | refine blk_drew ?_ | refine blk_alloc ?_ _)); exact BK267.out⟩, ⟨bw_⟩⟩
                              ·
                               replace c300 := Bool.eq_false_iff.mpr c300
                               subst c300
                               rw [if_neg (show ¬ (false = true) by decide)] at H
                               exact absurd ((Option.some.inj H).trans HRT.out) (by decide)
                             ·
                              replace c298 := Bool.eq_false_iff.mpr c298
                              subst c298
                              rw [if_neg (show ¬ (false = true) by decide)] at H
                              have H' := Aside0.mk H
                              clear H
                              go_wp2
                              go_roundg kj286
                              case measure => have := HJ19.out; have := HJ88.out; have := HJ125.out; have := HJ135.out; have := HJ182.out; have := HJ251.out; have := HJ274.out; have := HK8.out; have := HJ286.out; omega
                              case rel => exact ⟨(x64_8), (wrap64 (x610_8 + 1)), (by first | rfl | (simp; done) | (simp [*]; done)), (by first | rfl | (simp; done) | (simp [*]; done)), H', ⟨by have := HJ19.out; have := HJ88.out; have := HJ125.out; have := HJ135.out; have := HJ182.out; have := HJ251.out; have := HJ274.out; have := HK8.out; have := HJ286.out; omega⟩, ⟨by (with_reducible repeat (first | refine blk_drewN ?_ _ | refine blk_drew ?_ | refine blk_alloc ?_ _)); exact BK266.out⟩, ⟨by (with_reducible repeat (first | refine blk_drewN ?_ _ | refine blk_drew ?_ | refine blk_alloc ?_ _)); exact BK267.out⟩, ⟨bw_⟩⟩
                         ·
                          rw [if_neg c285] at H
                          exact absurd H (by simp)
                        ·
                         rw [if_neg c284] at H
                         exact absurd H (by simp)
                       ·
                        rw [if_neg c283] at H
                        have c283b0 : decide (x610_8 < (l5.length : Int)) = false := decide_eq_false c283
                        clear c283
                        have H' := Aside0.mk H
                        clear H
                        go_wp2
                        go_loopg [71] k8 (fun kq v71 w' => ∃ (x71_9 : Int), v71 = .int .i64 x71_9 ∧ Aside0 (laws_FnRunnersMeetOfAll.l4 kq a4 l5 t329 t330 x71_9 = some r) ∧ Aside0 (kq ≤ k8) ∧ Aside0 (w'.heap[gb266]? = some (.cells #[.int .i64 a1_0, .int .i64 a1_1] 45 (0, 0))) ∧ Aside0 (w'.heap[gb267]? = some (.cells #[.int .i64 a2_0, .int .i64 a2_1] 45 (0, 0))) ∧ Aside0 (Below w.heap.size w w'))
                        case atStart => exact ⟨(0), (by first | rfl | (simp; done) | (simp [*]; done)), H', ⟨Nat.le_refl _⟩, ⟨by (with_reducible repeat (first | refine blk_drewN ?_ _ | refine blk_drew ?_ | refine blk_alloc ?_ _)); exact BK266.out⟩, ⟨by (with_reducible repeat (first | refine blk_drewN ?_ _ | refine blk_drew ?_ | refine blk_alloc ?_ _)); exact BK267.out⟩, ⟨bw_⟩⟩
                        case round => as_aux_lemma =>
                         clear H'
                         (try clear c5); (try clear c7); (try clear c88); (try clear c135); (try clear c273); (try clear c274); (try clear c282); (try clear c283); (try clear c283b0); (try clear hcz24_0); (try clear hcz24_1); (try clear hcz25_0); (try clear hcz25_1); (try clear hcz27_0); (try clear hcz27_1); (try clear hcz28_0); (try clear hcz28_1); (try clear hcz30_0); (try clear hcz30_1); (try clear hcz31_0); (try clear hcz31_1); (try clear hcz33_0); (try clear hcz33_1); (try clear hcz34_0); (try clear hcz34_1); (try clear hcz36_0); (try clear hcz36_1); (try clear hcz37_0); (try clear hcz37_1); (try clear hcz39_0); (try clear hcz39_1); (try clear hcz40_0); (try clear hcz40_1); (try clear hcz42_0); (try clear hcz42_1); (try clear hcz43_0); (try clear hcz43_1); (try clear hcz45_0); (try clear hcz45_1); (try clear hcz46_0); (try clear hcz46_1); (try clear hcz48_0); (try clear hcz48_1); (try clear hcz49_0); (try clear hcz49_1); (try clear hcz51_0); (try clear hcz51_1); (try clear hcz52_0); (try clear hcz52_1); (try clear hfz24_0); (try clear hfz24_1); (try clear hfz25_0); (try clear hfz25_1); (try clear hfz27_0); (try clear hfz27_1); (try clear hfz28_0); (try clear hfz28_1); (try clear hfz30_0); (try clear hfz30_1); (try clear hfz31_0); (try clear hfz31_1); (try clear hfz33_0); (try clear hfz33_1); (try clear hfz34_0); (try clear hfz34_1); (try clear hfz36_0); (try clear hfz36_1); (try clear hfz37_0); (try clear hfz37_1); (try clear hfz39_0); (try clear hfz39_1); (try clear hfz40_0); (try clear hfz40_1); (try clear hfz42_0); (try clear hfz42_1); (try clear hfz43_0); (try clear hfz43_1); (try clear hfz45_0); (try clear hfz45_1); (try clear hfz46_0); (try clear hfz46_1); (try clear hfz48_0); (try clear hfz48_1); (try clear hfz49_0); (try clear hfz49_1); (try clear hfz51_0); (try clear hfz51_1); (try clear hfz52_0); (try clear hfz52_1)
                         obtain ⟨x71_9, rfl, HA, HK9, BK266, BK267, HB⟩ := hrel
                         cases gk with
                         | zero => exact absurd HA.out (by simp [laws_FnRunnersMeetOfAll.l4])
                         | succ k9 =>
                          have H := HA.out
                          clear HA
                          simp only [laws_FnRunnersMeetOfAll.l4] at H
                          have HC311 := Aside0.mk H
                          clear H
                          go_upto_region 82 with (fail)
                          go_cut [655] from 650 to 655 (fun v655 wc => ∃ (kq : Nat) (x655_310 : Bool), v655 = .bool x655_310 ∧ Aside0 (laws_FnRunnersMeetOfAll.j17 kq a4 l5 t329 t330 x71_9 x655_310 = some r) ∧ Aside0 (kq ≤ k9) ∧ Aside0 (wc.heap[gb266]? = some (.cells #[.int .i64 a1_0, .int .i64 a1_1] 45 (0, 0))) ∧ Aside0 (wc.heap[gb267]? = some (.cells #[.int .i64 a2_0, .int .i64 a2_1] 45 (0, 0))) ∧ Aside0 (Below w.heap.size w wc))
                          case first => as_aux_lemma =>
                           have H := HC311.out
                           clear HC311
                           by_cases c312 : t330 = true
                           ·
                            subst c312
                            rw [if_pos rfl] at H
                            have H' := Aside0.mk H
                            clear H
                            go_wp2
                            go_meet
                            case rel => exact ⟨_, (decide (x71_9 < t329)), (by first | rfl | (simp; done) | (simp [*]; done)), H', ⟨by have := HJ19.out; have := HJ88.out; have := HJ125.out; have := HJ135.out; have := HJ182.out; have := HJ251.out; have := HJ274.out; have := HK8.out; have := HK9.out; first | omega | exact Nat.le_refl _⟩, ⟨by (with_reducible repeat (first | refine blk_drewN ?_ _ | refine blk_drew ?_ | refine blk_alloc ?_ _)); exact BK266.out⟩, ⟨by (with_reducible repeat (first | refine blk_drewN ?_ _ | refine blk_drew ?_ | refine blk_alloc ?_ _)); exact BK267.out⟩, ⟨bw_⟩⟩
                           ·
                            replace c312 := Bool.eq_false_iff.mpr c312
                            subst c312
                            rw [if_neg (show ¬ (false = true) by decide)] at H
                            have H' := Aside0.mk H
                            clear H
                            go_wp2
                            go_meet
                            case rel => exact ⟨_, (false), (by first | rfl | (simp; done) | (simp [*]; done)), H', ⟨by have := HJ19.out; have := HJ88.out; have := HJ125.out; have := HJ135.out; have := HJ182.out; have := HJ251.out; have := HJ274.out; have := HK8.out; have := HK9.out; first | omega | exact Nat.le_refl _⟩, ⟨by (with_reducible repeat (first | refine blk_drewN ?_ _ | refine blk_drew ?_ | refine blk_alloc ?_ _)); exact BK266.out⟩, ⟨by (with_reducible repeat (first | refine blk_drewN ?_ _ | refine blk_drew ?_ | refine blk_alloc ?_ _)); exact BK267.out⟩, ⟨bw_⟩⟩
                          case rest => as_aux_lemma =>
                           clear HC311
                           (try clear c5); (try clear c7); (try clear c88); (try clear c135); (try clear c273); (try clear c274); (try clear c282); (try clear c283); (try clear c283b0); (try clear hcz24_0); (try clear hcz24_1); (try clear hcz25_0); (try clear hcz25_1); (try clear hcz27_0); (try clear hcz27_1); (try clear hcz28_0); (try clear hcz28_1); (try clear hcz30_0); (try clear hcz30_1); (try clear hcz31_0); (try clear hcz31_1); (try clear hcz33_0); (try clear hcz33_1); (try clear hcz34_0); (try clear hcz34_1); (try clear hcz36_0); (try clear hcz36_1); (try clear hcz37_0); (try clear hcz37_1); (try clear hcz39_0); (try clear hcz39_1); (try clear hcz40_0); (try clear hcz40_1); (try clear hcz42_0); (try clear hcz42_1); (try clear hcz43_0); (try clear hcz43_1); (try clear hcz45_0); (try clear hcz45_1); (try clear hcz46_0); (try clear hcz46_1); (try clear hcz48_0); (try clear hcz48_1); (try clear hcz49_0); (try clear hcz49_1); (try clear hcz51_0); (try clear hcz51_1); (try clear hcz52_0); (try clear hcz52_1); (try clear hfz24_0); (try clear hfz24_1); (try clear hfz25_0); (try clear hfz25_1); (try clear hfz27_0); (try clear hfz27_1); (try clear hfz28_0); (try clear hfz28_1); (try clear hfz30_0); (try clear hfz30_1); (try clear hfz31_0); (try clear hfz31_1); (try clear hfz33_0); (try clear hfz33_1); (try clear hfz34_0); (try clear hfz34_1); (try clear hfz36_0); (try clear hfz36_1); (try clear hfz37_0); (try clear hfz37_1); (try clear hfz39_0); (try clear hfz39_1); (try clear hfz40_0); (try clear hfz40_1); (try clear hfz42_0); (try clear hfz42_1); (try clear hfz43_0); (try clear hfz43_1); (try clear hfz45_0); (try clear hfz45_1); (try clear hfz46_0); (try clear hfz46_1); (try clear hfz48_0); (try clear hfz48_1); (try clear hfz49_0); (try clear hfz49_1); (try clear hfz51_0); (try clear hfz51_1); (try clear hfz52_0); (try clear hfz52_1)
                           obtain ⟨kq, x655_310, rfl, HA, HJ310, BK266, BK267, HB⟩ := hcut
                           cases kq with
                           | zero => exact absurd HA.out (by simp [laws_FnRunnersMeetOfAll.j17])
                           | succ kj310 =>
                            have H := HA.out
                            clear HA
                            simp only [laws_FnRunnersMeetOfAll.j17] at H
                            by_cases c313 : x655_310 = true
                            ·
                             subst c313
                             rw [if_pos rfl] at H
                             have H' := Aside0.mk H
                             clear H
                             go_wp2
                             go_loopg [72, 660] kj310 (fun kq v72 v660 w' => ∃ (x72_11 : Bool) (x660_11 : Int), v72 = .bool x72_11 ∧ v660 = .int .i64 x660_11 ∧ Aside0 (laws_FnRunnersMeetOfAll.l5 kq a4 l5 t329 t330 x71_9 x72_11 l5 (l5.length : Int) x660_11 = some r) ∧ Aside0 (kq ≤ kj310) ∧ Aside0 (w'.heap[gb266]? = some (.cells #[.int .i64 a1_0, .int .i64 a1_1] 45 (0, 0))) ∧ Aside0 (w'.heap[gb267]? = some (.cells #[.int .i64 a2_0, .int .i64 a2_1] 45 (0, 0))) ∧ Aside0 (Below w.heap.size w w'))
                             case atStart => exact ⟨(false), (0), (by first | rfl | (simp; done) | (simp [*]; done)), (by first | rfl | (simp; done) | (simp [*]; done)), H', ⟨Nat.le_refl _⟩, ⟨by (with_reducible repeat (first | refine blk_drewN ?_ _ | refine blk_drew ?_ | refine blk_alloc ?_ _)); exact BK266.out⟩, ⟨by (with_reducible repeat (first | refine blk_drewN ?_ _ | refine blk_drew ?_ | refine blk_alloc ?_ _)); exact BK267.out⟩, ⟨bw_⟩⟩
                             case round => as_aux_lemma =>
                              clear H'
                              (try clear c5); (try clear c7); (try clear c88); (try clear c135); (try clear c273); (try clear c274); (try clear c282); (try clear c283); (try clear c283b0); (try clear c313); (try clear hcz24_0); (try clear hcz24_1); (try clear hcz25_0); (try clear hcz25_1); (try clear hcz27_0); (try clear hcz27_1); (try clear hcz28_0); (try clear hcz28_1); (try clear hcz30_0); (try clear hcz30_1); (try clear hcz31_0); (try clear hcz31_1); (try clear hcz33_0); (try clear hcz33_1); (try clear hcz34_0); (try clear hcz34_1); (try clear hcz36_0); (try clear hcz36_1); (try clear hcz37_0); (try clear hcz37_1); (try clear hcz39_0); (try clear hcz39_1); (try clear hcz40_0); (try clear hcz40_1); (try clear hcz42_0); (try clear hcz42_1); (try clear hcz43_0); (try clear hcz43_1); (try clear hcz45_0); (try clear hcz45_1); (try clear hcz46_0); (try clear hcz46_1); (try clear hcz48_0); (try clear hcz48_1); (try clear hcz49_0); (try clear hcz49_1); (try clear hcz51_0); (try clear hcz51_1); (try clear hcz52_0); (try clear hcz52_1); (try clear hfz24_0); (try clear hfz24_1); (try clear hfz25_0); (try clear hfz25_1); (try clear hfz27_0); (try clear hfz27_1); (try clear hfz28_0); (try clear hfz28_1); (try clear hfz30_0); (try clear hfz30_1); (try clear hfz31_0); (try clear hfz31_1); (try clear hfz33_0); (try clear hfz33_1); (try clear hfz34_0); (try clear hfz34_1); (try clear hfz36_0); (try clear hfz36_1); (try clear hfz37_0); (try clear hfz37_1); (try clear hfz39_0); (try clear hfz39_1); (try clear hfz40_0); (try clear hfz40_1); (try clear hfz42_0); (try clear hfz42_1); (try clear hfz43_0); (try clear hfz43_1); (try clear hfz45_0); (try clear hfz45_1); (try clear hfz46_0); (try clear hfz46_1); (try clear hfz48_0); (try clear hfz48_1); (try clear hfz49_0); (try clear hfz49_1); (try clear hfz51_0); (try clear hfz51_1); (try clear hfz52_0); (try clear hfz52_1)
                              obtain ⟨x72_11, x660_11, rfl, rfl, HA, HK11, BK266, BK267, HB⟩ := hrel
                              cases gk with
                              | zero => exact absurd HA.out (by simp [laws_FnRunnersMeetOfAll.l5])
                              | succ k11 =>
                               have H := HA.out
                               clear HA
                               simp only [laws_FnRunnersMeetOfAll.l5] at H
                               by_cases c314 : x660_11 < (l5.length : Int)
                               ·
                                rw [if_pos c314] at H
                                have c314b0 : decide (x660_11 < (l5.length : Int)) = true := decide_eq_true c314
                                clear c314
                                by_cases c315 : 0 ≤ x660_11
                                ·
                                 rw [if_pos c315] at H
                                 have c315b0 : decide (0 ≤ x660_11) = true := decide_eq_true c315
                                 clear c315
                                 by_cases c316 : x660_11 < (l5.length : Int)
                                 ·
                                  rw [if_pos c316] at H
                                  have c316b0 : decide (x660_11 < (l5.length : Int)) = true := decide_eq_true c316
                                  clear c316
                                  replace H := Option.bind_eq_some_iff.mp H
                                  obtain ⟨⟨t348, t349⟩, A3170, H⟩ := H
                                  (try dsimp only at H)
                                  have A317 := Aside0.mk A3170
                                  clear A3170
                                  by_cases c318 : 0 < (l5.length : Int)
                                  ·
                                   rw [if_pos c318] at H
                                   have c318b0 : decide (0 < (l5.length : Int)) = true := decide_eq_true c318
                                   have c318b1 : decide (0 < l5.length) = true := decide_eq_true (by omega)
                                   clear c318
                                   replace H := Option.bind_eq_some_iff.mp H
                                   obtain ⟨⟨t351, t352⟩, A3190, H⟩ := H
                                   (try dsimp only at H)
                                   have A319 := Aside0.mk A3190
                                   clear A3190
                                   by_cases c320 : t349 = true
                                   ·
                                    subst c320
                                    rw [if_pos rfl] at H
                                    by_cases c321 : t352 = true
                                    ·
                                     subst c321
                                     rw [if_pos rfl] at H
                                     by_cases c322 : x72_11 = true
                                     ·
                                      subst c322
                                      rw [if_pos rfl] at H
                                      have H' := Aside0.mk H
                                      clear H
                                      have p346 : 0 ≤ (x660_11 : Int) := of_decide_eq_true (by first | (with_reducible assumption) | assumption)
                                      have q346 : x660_11 < (l5.length : Int) := of_decide_eq_true (by first | (with_reducible assumption) | assumption)
                                      obtain ⟨ad346, e346, hx346_0, hx346_1⟩ := at_T45 HR5.out x660_11 p346 q346
                                      cases e346
                                      replace hx346_0 := (HB.out.cell (World.block_lt_of_cell? w _ hx346_0)).trans hx346_0
                                      replace hx346_1 := (HB.out.cell (World.block_lt_of_cell? w _ hx346_1)).trans hx346_1
                                      replace p346 := eq_true p346
                                      replace q346 := eq_true q346
                                      go_wp2_with (first | ((with_reducible refine gate_dst (N := 74) rfl ?_); (try (refine gate_guard (by rfl) ?_; dsimp only)); refine box_event ?hg (N := 74) ?hd (cs := #[.int .i64 0, .int .i64 0]) (t := 45) ?hr ?_; (case hd => rfl); (case hg => rfl); (case hr => first | (go_simp; done) | (go_simp; rfl)); intro gb347 hg w323 hbox hb; have n0_ := Aside0.mk (blk_below (g := gb266) (o := .cells #[.int .i64 a1_0, .int .i64 a1_1] 45 (0, 0)) bk_ hb); have n1_ := Aside0.mk (blk_below (g := gb267) (o := .cells #[.int .i64 a2_0, .int .i64 a2_1] 45 (0, 0)) bk_ hb); have n2_ := Aside0.mk (below_step bw_ hb); have n3_ := Aside0.mk (hbox); have n4_ := Aside0.mk ((by rw [hg]; exact (below_size bw_) : w.heap.size ≤ gb347)); have n5_ := Aside0.mk ((by rw [hg]; exact (below_size bw_) : w.heap.size ≤ gb347)); have n6_ := Aside0.mk ((by rw [hg]; exact Nat.ne_of_lt (blk_lt (g := gb266) (o := .cells #[.int .i64 a1_0, .int .i64 a1_1] 45 (0, 0)) bk_) : gb266 ≠ gb347)); have n7_ := Aside0.mk ((by rw [hg]; exact Nat.ne_of_gt (blk_lt (g := gb266) (o := .cells #[.int .i64 a1_0, .int .i64 a1_1] 45 (0, 0)) bk_) : gb347 ≠ gb266)); have n8_ := Aside0.mk ((by rw [hg]; exact Nat.ne_of_lt (blk_lt (g := gb267) (o := .cells #[.int .i64 a2_0, .int .i64 a2_1] 45 (0, 0)) bk_) : gb267 ≠ gb347)); have n9_ := Aside0.mk ((by rw [hg]; exact Nat.ne_of_gt (blk_lt (g := gb267) (o := .cells #[.int .i64 a2_0, .int .i64 a2_1] 45 (0, 0)) bk_) : gb347 ≠ gb267)); clear BK266; clear BK267; clear HB; have BK266 := n0_; have BK267 := n1_; have HB := n2_; have BK347 := n3_; have GW347 := n4_; have GE347 := n5_; have NB266_347 := n6_; have NB347_266 := n7_; have NB267_347 := n8_; have NB347_267 := n9_; clear n0_ n1_ n2_ n3_ n4_ n5_ n6_ n7_ n8_ n9_; clear hb hbox hg; have hnb324 := NB347_266.out; have hnc324 := NB266_347.out; have hnb325 := NB347_267.out; have hnc325 := NB267_347.out; have hcz326_0 : w323.cell? ⟨gb347, 0, none⟩ = some (.int .i64 0) := (blk_cell BK347.out 0).trans rfl; have hcz326_1 : w323.cell? ⟨gb347, 1, none⟩ = some (.int .i64 0) := (blk_cell BK347.out 1).trans rfl; have hfz326_0 := blk_frozen BK347.out 0; have hfz326_1 := blk_frozen BK347.out 1) | ((with_reducible refine gate_callee (f := 34) rfl ?_); refine goesL_ (some 668) rfl rfl Try.func34 (by kernel_rfl) rfl #[.int .i64 a4, .agg #[.int .i64 ((rd_T45 l5 x660_11).f0), .int .i64 ((rd_T45 l5 x660_11).f1)], .int .i64 x71_9] rfl (by (try simp only [List.map_toArray, List.map_cons, List.map_nil]); first | done | rfl | (simp only [List.length_drop, List.length_take]; rfl)) ?_; (with_reducible refine (impl_PlaceOnTrack.calls a4 ((rd_T45 l5 x660_11).f0) ((rd_T45 l5 x660_11).f1) x71_9 t348 true _ A317.out).mono ?_); rintro e w327 ⟨rfl, hb⟩; refine ⟨_, rfl, ?_⟩; have n0_ := Aside0.mk (blk_below (g := gb266) (o := .cells #[.int .i64 a1_0, .int .i64 a1_1] 45 (0, 0)) (by (with_reducible repeat (first | refine blk_drewN ?_ _ | refine blk_drew ?_ | refine blk_alloc ?_ _)); refine blk_far ?_ NB266_347.out _; (with_reducible repeat (first | refine blk_drewN ?_ _ | refine blk_drew ?_ | refine blk_alloc ?_ _)); refine blk_far ?_ NB266_347.out _; (with_reducible repeat (first | refine blk_drewN ?_ _ | refine blk_drew ?_ | refine blk_alloc ?_ _)); exact BK266.out) hb); have n1_ := Aside0.mk (blk_below (g := gb267) (o := .cells #[.int .i64 a2_0, .int .i64 a2_1] 45 (0, 0)) (by (with_reducible repeat (first | refine blk_drewN ?_ _ | refine blk_drew ?_ | refine blk_alloc ?_ _)); refine blk_far ?_ NB267_347.out _; (with_reducible repeat (first | refine blk_drewN ?_ _ | refine blk_drew ?_ | refine blk_alloc ?_ _)); refine blk_far ?_ NB267_347.out _; (with_reducible repeat (first | refine blk_drewN ?_ _ | refine blk_drew ?_ | refine blk_alloc ?_ _)); exact BK267.out) hb); have n2_ := Aside0.mk (blk_below (g := gb347) (o := .cells #[.int .i64 ((rd_T45 l5 x660_11).f0), .int .i64 ((rd_T45 l5 x660_11).f1)] 45 (0, 0)) (by (with_reducible repeat (first | refine blk_drewN ?_ _ | refine blk_drew ?_ | refine blk_alloc ?_ _)); refine blk_put (cs := #[.int .i64 ((rd_T45 l5 x660_11).f0), .int .i64 0]) ?_ 1 _ rfl; (with_reducible repeat (first | refine blk_drewN ?_ _ | refine blk_drew ?_ | refine blk_alloc ?_ _)); refine blk_put (cs := #[.int .i64 0, .int .i64 0]) ?_ 0 _ rfl; (with_reducible repeat (first | refine blk_drewN ?_ _ | refine blk_drew ?_ | refine blk_alloc ?_ _)); exact BK347.out) hb); have n3_ := Aside0.mk (below_step bw_ hb); clear BK266; clear BK267; clear BK347; clear HB; have BK266 := n0_; have BK267 := n1_; have BK347 := n2_; have HB := n3_; clear n0_ n1_ n2_ n3_; (try clear hb); (try clear hb2); (try clear hk); (try clear hi); have p350 : 0 ≤ (0 : Int) := (by omega); have q350 : 0 < (l5.length : Int) := of_decide_eq_true (by first | (with_reducible assumption) | assumption); obtain ⟨ad350, e350, hx350_0, hx350_1⟩ := at_T45 HR5.out 0 p350 q350; obtain rfl : ad346 = ad350 := (by injection e350); have qi350 : (0 < l5.length) = True := eq_true (by omega); (try rw [show ((0 : Int)).toNat = 0 from rfl] at hx350_0); (try rw [show 0 * 2 = 0 from rfl] at hx350_0); (try rw [Addr.add_zero'] at hx350_0); (try rw [show ((0 : Int)).toNat = 0 from rfl] at hx350_1); (try rw [show 0 * 2 = 0 from rfl] at hx350_1); (try rw [Addr.add_zero'] at hx350_1); replace hx350_0 := (HB.out.cell (World.block_lt_of_cell? w _ hx350_0)).trans hx350_0; replace hx350_1 := (HB.out.cell (World.block_lt_of_cell? w _ hx350_1)).trans hx350_1; replace p350 := eq_true p350; replace q350 := eq_true q350) | ((with_reducible refine gate_callee (f := 34) rfl ?_); refine goesL_ (some 677) rfl rfl Try.func34 (by kernel_rfl) rfl #[.int .i64 a4, .agg #[.int .i64 ((rd_T45 l5 0).f0), .int .i64 ((rd_T45 l5 0).f1)], .int .i64 x71_9] rfl (by (try simp only [List.map_toArray, List.map_cons, List.map_nil]); first | done | rfl | (simp only [List.length_drop, List.length_take]; rfl)) ?_; (with_reducible refine (impl_PlaceOnTrack.calls a4 ((rd_T45 l5 0).f0) ((rd_T45 l5 0).f1) x71_9 t351 true _ A319.out).mono ?_); rintro e w328 ⟨rfl, hb⟩; refine ⟨_, rfl, ?_⟩; have n0_ := Aside0.mk (blk_below (g := gb266) (o := .cells #[.int .i64 a1_0, .int .i64 a1_1] 45 (0, 0)) bk_ hb); have n1_ := Aside0.mk (blk_below (g := gb267) (o := .cells #[.int .i64 a2_0, .int .i64 a2_1] 45 (0, 0)) bk_ hb); have n2_ := Aside0.mk (blk_below (g := gb347) (o := .cells #[.int .i64 ((rd_T45 l5 x660_11).f0), .int .i64 ((rd_T45 l5 x660_11).f1)] 45 (0, 0)) bk_ hb); have n3_ := Aside0.mk (below_step bw_ hb); clear BK266; clear BK267; clear BK347; clear HB; have BK266 := n0_; have BK267 := n1_; have BK347 := n2_; have HB := n3_; clear n0_ n1_ n2_ n3_; (try clear hb); (try clear hb2); (try clear hk); (try clear hi)))
                                      go_roundg k11
                                      case measure => have := HJ19.out; have := HJ88.out; have := HJ125.out; have := HJ135.out; have := HJ182.out; have := HJ251.out; have := HJ274.out; have := HK8.out; have := HK9.out; have := HJ310.out; have := HK11.out; omega
                                      case rel => exact ⟨(true), (wrap64 (x660_11 + 1)), (by first | rfl | (simp; done) | (simp [*]; done)), (by first | rfl | (simp; done) | (simp [*]; done)), H', ⟨by have := HJ19.out; have := HJ88.out; have := HJ125.out; have := HJ135.out; have := HJ182.out; have := HJ251.out; have := HJ274.out; have := HK8.out; have := HK9.out; have := HJ310.out; have := HK11.out; omega⟩, ⟨by (with_reducible repeat (first | refine blk_drewN ?_ _ | refine blk_drew ?_ | refine blk_alloc ?_ _)); exact BK266.out⟩, ⟨by (with_reducible repeat (first | refine blk_drewN ?_ _ | refine blk_drew ?_ | refine blk_alloc ?_ _)); exact BK267.out⟩, ⟨bw_⟩⟩
                                     ·
                                      replace c322 := Bool.eq_false_iff.mpr c322
                                      subst c322
                                      rw [if_neg (show ¬ (false = true) by decide)] at H
                                      have H' := Aside0.mk H
                                      clear H
                                      have p346 : 0 ≤ (x660_11 : Int) := of_decide_eq_true (by first | (with_reducible assumption) | assumption)
                                      have q346 : x660_11 < (l5.length : Int) := of_decide_eq_true (by first | (with_reducible assumption) | assumption)
                                      obtain ⟨ad346, e346, hx346_0, hx346_1⟩ := at_T45 HR5.out x660_11 p346 q346
                                      cases e346
                                      replace hx346_0 := (HB.out.cell (World.block_lt_of_cell? w _ hx346_0)).trans hx346_0
                                      replace hx346_1 := (HB.out.cell (World.block_lt_of_cell? w _ hx346_1)).trans hx346_1
                                      replace p346 := eq_true p346
                                      replace q346 := eq_true q346
                                      go_wp2_with (first | ((with_reducible refine gate_dst (N := 74) rfl ?_); (try (refine gate_guard (by rfl) ?_; dsimp only)); refine box_event ?hg (N := 74) ?hd (cs := #[.int .i64 0, .int .i64 0]) (t := 45) ?hr ?_; (case hd => rfl); (case hg => rfl); (case hr => first | (go_simp; done) | (go_simp; rfl)); intro gb347 hg w329 hbox hb; have n0_ := Aside0.mk (blk_below (g := gb266) (o := .cells #[.int .i64 a1_0, .int .i64 a1_1] 45 (0, 0)) bk_ hb); have n1_ := Aside0.mk (blk_below (g := gb267) (o := .cells #[.int .i64 a2_0, .int .i64 a2_1] 45 (0, 0)) bk_ hb); have n2_ := Aside0.mk (below_step bw_ hb); have n3_ := Aside0.mk (hbox); have n4_ := Aside0.mk ((by rw [hg]; exact (below_size bw_) : w.heap.size ≤ gb347)); have n5_ := Aside0.mk ((by rw [hg]; exact (below_size bw_) : w.heap.size ≤ gb347)); have n6_ := Aside0.mk ((by rw [hg]; exact Nat.ne_of_lt (blk_lt (g := gb266) (o := .cells #[.int .i64 a1_0, .int .i64 a1_1] 45 (0, 0)) bk_) : gb266 ≠ gb347)); have n7_ := Aside0.mk ((by rw [hg]; exact Nat.ne_of_gt (blk_lt (g := gb266) (o := .cells #[.int .i64 a1_0, .int .i64 a1_1] 45 (0, 0)) bk_) : gb347 ≠ gb266)); have n8_ := Aside0.mk ((by rw [hg]; exact Nat.ne_of_lt (blk_lt (g := gb267) (o := .cells #[.int .i64 a2_0, .int .i64 a2_1] 45 (0, 0)) bk_) : gb267 ≠ gb347)); have n9_ := Aside0.mk ((by rw [hg]; exact Nat.ne_of_gt (blk_lt (g := gb267) (o := .cells #[.int .i64 a2_0, .int .i64 a2_1] 45 (0, 0)) bk_) : gb347 ≠ gb267)); clear BK266; clear BK267; clear HB; have BK266 := n0_; have BK267 := n1_; have HB := n2_; have BK347 := n3_; have GW347 := n4_; have GE347 := n5_; have NB266_347 := n6_; have NB347_266 := n7_; have NB267_347 := n8_; have NB347_267 := n9_; clear n0_ n1_ n2_ n3_ n4_ n5_ n6_ n7_ n8_ n9_; clear hb hbox hg; have hnb330 := NB347_266.out; have hnc330 := NB266_347.out; have hnb331 := NB347_267.out; have hnc331 := NB267_347.out; have hcz332_0 : w329.cell? ⟨gb347, 0, none⟩ = some (.int .i64 0) := (blk_cell BK347.out 0).trans rfl; have hcz332_1 : w329.cell? ⟨gb347, 1, none⟩ = some (.int .i64 0) := (blk_cell BK347.out 1).trans rfl; have hfz332_0 := blk_frozen BK347.out 0; have hfz332_1 := blk_frozen BK347.out 1) | ((with_reducible refine gate_callee (f := 34) rfl ?_); refine goesL_ (some 668) rfl rfl Try.func34 (by kernel_rfl) rfl #[.int .i64 a4, .agg #[.int .i64 ((rd_T45 l5 x660_11).f0), .int .i64 ((rd_T45 l5 x660_11).f1)], .int .i64 x71_9] rfl (by (try simp only [List.map_toArray, List.map_cons, List.map_nil]); first | done | rfl | (simp only [List.length_drop, List.length_take]; rfl)) ?_; (with_reducible refine (impl_PlaceOnTrack.calls a4 ((rd_T45 l5 x660_11).f0) ((rd_T45 l5 x660_11).f1) x71_9 t348 true _ A317.out).mono ?_); rintro e w333 ⟨rfl, hb⟩; refine ⟨_, rfl, ?_⟩; have n0_ := Aside0.mk (blk_below (g := gb266) (o := .cells #[.int .i64 a1_0, .int .i64 a1_1] 45 (0, 0)) (by (with_reducible repeat (first | refine blk_drewN ?_ _ | refine blk_drew ?_ | refine blk_alloc ?_ _)); refine blk_far ?_ NB266_347.out _; (with_reducible repeat (first | refine blk_drewN ?_ _ | refine blk_drew ?_ | refine blk_alloc ?_ _)); refine blk_far ?_ NB266_347.out _; (with_reducible repeat (first | refine blk_drewN ?_ _ | refine blk_drew ?_ | refine blk_alloc ?_ _)); exact BK266.out) hb); have n1_ := Aside0.mk (blk_below (g := gb267) (o := .cells #[.int .i64 a2_0, .int .i64 a2_1] 45 (0, 0)) (by (with_reducible repeat (first | refine blk_drewN ?_ _ | refine blk_drew ?_ | refine blk_alloc ?_ _)); refine blk_far ?_ NB267_347.out _; (with_reducible repeat (first | refine blk_drewN ?_ _ | refine blk_drew ?_ | refine blk_alloc ?_ _)); refine blk_far ?_ NB267_347.out _; (with_reducible repeat (first | refine blk_drewN ?_ _ | refine blk_drew ?_ | refine blk_alloc ?_ _)); exact BK267.out) hb); have n2_ := Aside0.mk (blk_below (g := gb347) (o := .cells #[.int .i64 ((rd_T45 l5 x660_11).f0), .int .i64 ((rd_T45 l5 x660_11).f1)] 45 (0, 0)) (by (with_reducible repeat (first | refine blk_drewN ?_ _ | refine blk_drew ?_ | refine blk_alloc ?_ _)); refine blk_put (cs := #[.int .i64 ((rd_T45 l5 x660_11).f0), .int .i64 0]) ?_ 1 _ rfl; (with_reducible repeat (first | refine blk_drewN ?_ _ | refine blk_drew ?_ | refine blk_alloc ?_ _)); refine blk_put (cs := #[.int .i64 0, .int .i64 0]) ?_ 0 _ rfl; (with_reducible repeat (first | refine blk_drewN ?_ _ | refine blk_drew ?_ | refine blk_alloc ?_ _)); exact BK347.out) hb); have n3_ := Aside0.mk (below_step bw_ hb); clear BK266; clear BK267; clear BK347; clear HB; have BK266 := n0_; have BK267 := n1_; have BK347 := n2_; have HB := n3_; clear n0_ n1_ n2_ n3_; (try clear hb); (try clear hb2); (try clear hk); (try clear hi); have p350 : 0 ≤ (0 : Int) := (by omega); have q350 : 0 < (l5.length : Int) := of_decide_eq_true (by first | (with_reducible assumption) | assumption); obtain ⟨ad350, e350, hx350_0, hx350_1⟩ := at_T45 HR5.out 0 p350 q350; obtain rfl : ad346 = ad350 := (by injection e350); have qi350 : (0 < l5.length) = True := eq_true (by omega); (try rw [show ((0 : Int)).toNat = 0 from rfl] at hx350_0); (try rw [show 0 * 2 = 0 from rfl] at hx350_0); (try rw [Addr.add_zero'] at hx350_0); (try rw [show ((0 : Int)).toNat = 0 from rfl] at hx350_1); (try rw [show 0 * 2 = 0 from rfl] at hx350_1); (try rw [Addr.add_zero'] at hx350_1); replace hx350_0 := (HB.out.cell (World.block_lt_of_cell? w _ hx350_0)).trans hx350_0; replace hx350_1 := (HB.out.cell (World.block_lt_of_cell? w _ hx350_1)).trans hx350_1; replace p350 := eq_true p350; replace q350 := eq_true q350) | ((with_reducible refine gate_callee (f := 34) rfl ?_); refine goesL_ (some 677) rfl rfl Try.func34 (by kernel_rfl) rfl #[.int .i64 a4, .agg #[.int .i64 ((rd_T45 l5 0).f0), .int .i64 ((rd_T45 l5 0).f1)], .int .i64 x71_9] rfl (by (try simp only [List.map_toArray, List.map_cons, List.map_nil]); first | done | rfl | (simp only [List.length_drop, List.length_take]; rfl)) ?_; (with_reducible refine (impl_PlaceOnTrack.calls a4 ((rd_T45 l5 0).f0) ((rd_T45 l5 0).f1) x71_9 t351 true _ A319.out).mono ?_); rintro e w334 ⟨rfl, hb⟩; refine ⟨_, rfl, ?_⟩; have n0_ := Aside0.mk (blk_below (g := gb266) (o := .cells #[.int .i64 a1_0, .int .i64 a1_1] 45 (0, 0)) bk_ hb); have n1_ := Aside0.mk (blk_below (g := gb267) (o := .cells #[.int .i64 a2_0, .int .i64 a2_1] 45 (0, 0)) bk_ hb); have n2_ := Aside0.mk (blk_below (g := gb347) (o := .cells #[.int .i64 ((rd_T45 l5 x660_11).f0), .int .i64 ((rd_T45 l5 x660_11).f1)] 45 (0, 0)) bk_ hb); have n3_ := Aside0.mk (below_step bw_ hb); clear BK266; clear BK267; clear BK347; clear HB; have BK266 := n0_; have BK267 := n1_; have BK347 := n2_; have HB := n3_; clear n0_ n1_ n2_ n3_; (try clear hb); (try clear hb2); (try clear hk); (try clear hi)))
                                      go_roundg k11
                                      case measure => have := HJ19.out; have := HJ88.out; have := HJ125.out; have := HJ135.out; have := HJ182.out; have := HJ251.out; have := HJ274.out; have := HK8.out; have := HK9.out; have := HJ310.out; have := HK11.out; omega
                                      case rel => exact ⟨((t348 != t351)), (wrap64 (x660_11 + 1)), (by first | rfl | (simp; done) | (simp [*]; done)), (by first | rfl | (simp; done) | (simp [*]; done)), H', ⟨by have := HJ19.out; have := HJ88.out; have := HJ125.out; have := HJ135.out; have := HJ182.out; have := HJ251.out; have := HJ274.out; have := HK8.out; have := HK9.out; have := HJ310.out; have := HK11.out; omega⟩, ⟨by (with_reducible repeat (first | refine blk_drewN ?_ _ | refine blk_drew ?_ | refine blk_alloc ?_ _)); exact BK266.out⟩, ⟨by (with_reducible repeat (first | refine blk_drewN ?_ _ | refine blk_drew ?_ | refine blk_alloc ?_ _)); exact BK267.out⟩, ⟨bw_⟩⟩
                                    ·
                                     replace c321 := Bool.eq_false_iff.mpr c321
                                     subst c321
                                     rw [if_neg (show ¬ (false = true) by decide)] at H
                                     exact absurd ((Option.some.inj H).trans HRT.out) (by decide)
                                   ·
                                    replace c320 := Bool.eq_false_iff.mpr c320
                                    subst c320
                                    rw [if_neg (show ¬ (false = true) by decide)] at H
                                    exact absurd ((Option.some.inj H).trans HRT.out) (by decide)
                                  ·
                                   rw [if_neg c318] at H
                                   exact absurd H (by simp)
                                 ·
                                  rw [if_neg c316] at H
                                  exact absurd H (by simp)
                                ·
                                 rw [if_neg c315] at H
                                 exact absurd H (by simp)
                               ·
                                rw [if_neg c314] at H
                                have c314b0 : decide (x660_11 < (l5.length : Int)) = false := decide_eq_false c314
                                clear c314
                                by_cases c335 : x72_11 = true
                                ·
                                 subst c335
                                 rw [if_pos rfl] at H
                                 have H' := Aside0.mk H
                                 clear H
                                 go_wp2
                                 go_roundg k11
                                 case measure => have := HJ19.out; have := HJ88.out; have := HJ125.out; have := HJ135.out; have := HJ182.out; have := HJ251.out; have := HJ274.out; have := HK8.out; have := HK9.out; have := HJ310.out; have := HK11.out; omega
                                 case rel => exact ⟨(wrap64 (x71_9 + 1)), (by first | rfl | (simp; done) | (simp [*]; done)), H', ⟨by have := HJ19.out; have := HJ88.out; have := HJ125.out; have := HJ135.out; have := HJ182.out; have := HJ251.out; have := HJ274.out; have := HK8.out; have := HK9.out; have := HJ310.out; have := HK11.out; omega⟩, ⟨by (with_reducible repeat (first | refine blk_drewN ?_ _ | refine blk_drew ?_ | refine blk_alloc ?_ _)); exact BK266.out⟩, ⟨by (with_reducible repeat (first | refine blk_drewN ?_ _ | refine blk_drew ?_ | refine blk_alloc ?_ _)); exact BK267.out⟩, ⟨bw_⟩⟩
                                ·
                                 replace c335 := Bool.eq_false_iff.mpr c335
                                 subst c335
                                 rw [if_neg (show ¬ (false = true) by decide)] at H
                                 exact absurd ((Option.some.inj H).trans HRT.out) (by decide)
                            ·
                             replace c313 := Bool.eq_false_iff.mpr c313
                             subst c313
                             rw [if_neg (show ¬ (false = true) by decide)] at H
                             obtain rfl := Option.some.inj H
                             go_wp2
                             go_ret
                             exact ⟨by first | rfl | (simp [errW_none, errW_some] <;> rfl) | (simp [*, errW_none, errW_some] <;> rfl), by repeat (first | (with_reducible first | exact HB.out | apply below_alloc | apply pw_below_drewN | apply below_drew1 | refine below_set ?_ GE266.out | refine below_set ?_ GE267.out) | exact HB.out)⟩
                 ·
                  replace c274 := Bool.eq_false_iff.mpr c274
                  subst c274
                  rw [if_neg (show ¬ (false = true) by decide)] at H
                  obtain rfl := Option.some.inj H
                  go_wp2
                  go_ret
                  exact ⟨by first | rfl | (simp [errW_none, errW_some] <;> rfl) | (simp [*, errW_none, errW_some] <;> rfl), by repeat (first | (with_reducible first | exact HB.out | apply below_alloc | apply pw_below_drewN | apply below_drew1 | refine below_set ?_ GE266.out | refine below_set ?_ GE267.out) | exact HB.out)⟩

end Go.Proofs.Ytgobnhoblofglaa.PFnRunnersMeetOfAll
