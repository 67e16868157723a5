-- Laid by a program of this session's (wip/gen/printp.sh): the functions that the law reaches, each with its walk.
import Derived.Test.YtgobnhoblofglaaPFnRunnersMeetx0
import Derived.Test.YtgobnhoblofglaaPFnRunnersMeetx1
import Derived.Test.YtgobnhoblofglaaPFnRunnersMeetx2
import Derived.Test.YtgobnhoblofglaaPFnRunnersMeetx3
import Derived.Test.YtgobnhoblofglaaPFnRunnersMeetx4
import Derived.Test.YtgobnhoblofglaaPFnRunnersMeetx5
import Derived.Test.YtgobnhoblofglaaPFnRunnersMeetx6
import Derived.Test.YtgobnhoblofglaaPFnRunnersMeetx7
import Derived.Test.YtgobnhoblofglaaPFnRunnersMeetx8
import Derived.Test.YtgobnhoblofglaaPFnRunnersMeetx9
import Derived.Test.YtgobnhoblofglaaPFnRunnersMeetx10
import Derived.Test.YtgobnhoblofglaaPFnRunnersMeetx11
namespace Go.Proofs.Ytgobnhoblofglaa.PFnRunnersMeet
open Go.RowKit Go.Proofs.YtgobnhoblofglaaW.PrintWords Go.Proofs.YtgobnhoblofglaaW.PrintLast Go.Proofs.YtgobnhoblofglaaW.PrintMore
attribute [local go_sem] max2_int min2_int max_two min_two max_three min_three max_four min_four   -- for this text's walks alone
set_option linter.unusedVariables false
set_option linter.unusedSimpArgs false

theorem bw_ {w W : World} (h : Below w.heap.size w W := by repeat (first | (with_reducible first | exact HB.out | apply below_alloc | apply pw_below_drewN | apply below_drew1 | refine below_set ?_ (Aside0.out (by assumption))) | exact HB.out)) : Below w.heap.size w W := h
theorem bk_ {W : World} {g : Nat} {o : Obj} (h : W.heap[g]? = some o := by (with_reducible repeat (first | refine blk_drewN ?_ _ | refine blk_drew ?_ | refine blk_alloc ?_ _)); exact Aside0.out (by assumption)) : W.heap[g]? = some o := h
set_option maxHeartbeats 80000000 in
set_option maxRecDepth 100000 in
theorem laws_FnRunnersMeet.calls (k : Nat) (A0 : Option Addr) (c0 : Nat) (l0 : List Int) (A1 : Option Addr) (c1 : Nat) (l1 : List Int) (r : Bool) (w : World) (hr0 : Kd.C (Kd.int .u8) w A0 l0.length l0) (hc0 : l0.length ≤ c0) (hr1 : Kd.C (Kd.int .u8) w A1 l1.length l1) (hc1 : l1.length ≤ c1) (h : laws_FnRunnersMeet.f k l0 l1 = some r) (hrt : r = true) :
  Calls Try.prog 6 #[.slice A0 l0.length c0, .slice A1 l1.length c1] w fun e w' => e = .returned (.bool r) ∧ Below w.heap.size w w' := by
 have HRT := Aside0.mk hrt
 clear hrt
 have hu45 := Try.underlying45
 have HR0 := Aside0.mk hr0
 have HC0 := Aside0.mk hc0
 clear hr0 hc0
 have HR1 := Aside0.mk hr1
 have HC1 := Aside0.mk hc1
 clear hr1 hc1
 have HB := Aside0.mk (Below.refl w.heap.size w)
 have H : ((laws_big.f l0 l1).bind fun t397 => (if t397 = true then (some true) else ((spec_DrawMeetingTimes.f l0).bind fun bt398 => ((impl_MeetingTimes.f k bt398.1 bt398.2.1 bt398.2.2.1 bt398.2.2.2.1 bt398.2.2.2.2.1 bt398.2.2.2.2.2).bind fun bt406 => ((spec_MeetingTimes.f k bt398.1 bt398.2.1 bt398.2.2.1 bt398.2.2.2.1 bt398.2.2.2.2.1 bt398.2.2.2.2.2).bind fun bt410 => ((impl_CountOvertakings.f k bt398.1 bt398.2.1 bt398.2.2.1 bt398.2.2.2.1 bt398.2.2.2.2.1 bt398.2.2.2.2.2).bind fun bt414 => ((spec_CountOvertakings.f k bt398.1 bt398.2.1 bt398.2.2.1 bt398.2.2.2.1 bt398.2.2.2.2.1 bt398.2.2.2.2.2).bind fun bt416 => ((impl_FirstMeet.f k bt398.1 bt398.2.1 bt398.2.2.1 bt398.2.2.2.1 bt398.2.2.2.2.1).bind fun bt418 => ((spec_FirstMeet.f k bt398.1 bt398.2.1 bt398.2.2.1 bt398.2.2.2.1 bt398.2.2.2.2.1).bind fun bt421 => ((impl_MeetingPlaces.f k bt398.1 bt398.2.1 bt398.2.2.1 bt398.2.2.2.1 bt398.2.2.2.2.1).bind fun bt424 => ((spec_MeetingPlaces.f k bt398.1 bt398.2.1 bt398.2.2.1 bt398.2.2.2.1 bt398.2.2.2.2.1).bind fun bt428 => ((impl_LeadBetween.f k bt398.1 bt398.2.1 bt398.2.2.1 bt398.2.2.2.1 bt398.2.2.2.2.1 bt398.2.2.2.2.2).bind fun bt432 => ((spec_LeadBetween.f k bt398.1 bt398.2.1 bt398.2.2.1 bt398.2.2.2.1 bt398.2.2.2.2.1 bt398.2.2.2.2.2).bind fun bt434 => (if (bt406.2 != bt410.2) = true then (laws_FnRunnersMeet.j0 k l1 bt398.1 bt398.2.2.2.2.2 bt406.1 bt406.2 bt414.1 bt418.1 bt418.2.1 bt418.2.2 bt424.1 bt424.2 bt432.1 bt432.2 true bt398.2.1 bt398.2.2.1 bt398.2.2.2.1 bt398.2.2.2.2.1) else ((laws_qSame.f k bt406.1 bt410.1).bind fun t436 => (if t436 = true then (if (bt414.2 != bt416.2) = true then (laws_FnRunnersMeet.j0 k l1 bt398.1 bt398.2.2.2.2.2 bt406.1 bt406.2 bt414.1 bt418.1 bt418.2.1 bt418.2.2 bt424.1 bt424.2 bt432.1 bt432.2 true bt398.2.1 bt398.2.2.1 bt398.2.2.2.1 bt398.2.2.2.2.1) else (if bt414.1 = bt416.1 then (if (bt418.2.2 != bt421.2.2) = true then (laws_FnRunnersMeet.j0 k l1 bt398.1 bt398.2.2.2.2.2 bt406.1 bt406.2 bt414.1 bt418.1 bt418.2.1 bt418.2.2 bt424.1 bt424.2 bt432.1 bt432.2 true bt398.2.1 bt398.2.2.1 bt398.2.2.2.1 bt398.2.2.2.2.1) else (if bt418.1 = bt421.1 then (if bt418.2.1 = bt421.2.1 then (if (bt424.2 != bt428.2) = true then (laws_FnRunnersMeet.j0 k l1 bt398.1 bt398.2.2.2.2.2 bt406.1 bt406.2 bt414.1 bt418.1 bt418.2.1 bt418.2.2 bt424.1 bt424.2 bt432.1 bt432.2 true bt398.2.1 bt398.2.2.1 bt398.2.2.2.1 bt398.2.2.2.2.1) else ((laws_qSame.f k bt424.1 bt428.1).bind fun t437 => (if t437 = true then (if (bt432.2 != bt434.2) = true then (laws_FnRunnersMeet.j0 k l1 bt398.1 bt398.2.2.2.2.2 bt406.1 bt406.2 bt414.1 bt418.1 bt418.2.1 bt418.2.2 bt424.1 bt424.2 bt432.1 bt432.2 true bt398.2.1 bt398.2.2.1 bt398.2.2.2.1 bt398.2.2.2.2.1) else (if bt432.1 = bt434.1 then (if (bt414.2 != bt432.2) = true then (laws_FnRunnersMeet.j0 k l1 bt398.1 bt398.2.2.2.2.2 bt406.1 bt406.2 bt414.1 bt418.1 bt418.2.1 bt418.2.2 bt424.1 bt424.2 bt432.1 bt432.2 true bt398.2.1 bt398.2.2.1 bt398.2.2.2.1 bt398.2.2.2.2.1) else (if bt406.2 = true then (if bt414.2 = true then (if bt418.2.2 = true then (laws_FnRunnersMeet.j0 k l1 bt398.1 bt398.2.2.2.2.2 bt406.1 bt406.2 bt414.1 bt418.1 bt418.2.1 bt418.2.2 bt424.1 bt424.2 bt432.1 bt432.2 (!bt424.2) bt398.2.1 bt398.2.2.1 bt398.2.2.2.1 bt398.2.2.2.2.1) else (laws_FnRunnersMeet.j0 k l1 bt398.1 bt398.2.2.2.2.2 bt406.1 bt406.2 bt414.1 bt418.1 bt418.2.1 bt418.2.2 bt424.1 bt424.2 bt432.1 bt432.2 false bt398.2.1 bt398.2.2.1 bt398.2.2.2.1 bt398.2.2.2.2.1)) else (laws_FnRunnersMeet.j0 k l1 bt398.1 bt398.2.2.2.2.2 bt406.1 bt406.2 bt414.1 bt418.1 bt418.2.1 bt418.2.2 bt424.1 bt424.2 bt432.1 bt432.2 true bt398.2.1 bt398.2.2.1 bt398.2.2.2.1 bt398.2.2.2.2.1)) else (if bt418.2.2 = true then (laws_FnRunnersMeet.j0 k l1 bt398.1 bt398.2.2.2.2.2 bt406.1 bt406.2 bt414.1 bt418.1 bt418.2.1 bt418.2.2 bt424.1 bt424.2 bt432.1 bt432.2 (!bt424.2) bt398.2.1 bt398.2.2.1 bt398.2.2.2.1 bt398.2.2.2.2.1) else (laws_FnRunnersMeet.j0 k l1 bt398.1 bt398.2.2.2.2.2 bt406.1 bt406.2 bt414.1 bt418.1 bt418.2.1 bt418.2.2 bt424.1 bt424.2 bt432.1 bt432.2 false bt398.2.1 bt398.2.2.1 bt398.2.2.2.1 bt398.2.2.2.2.1)))) else (laws_FnRunnersMeet.j0 k l1 bt398.1 bt398.2.2.2.2.2 bt406.1 bt406.2 bt414.1 bt418.1 bt418.2.1 bt418.2.2 bt424.1 bt424.2 bt432.1 bt432.2 true bt398.2.1 bt398.2.2.1 bt398.2.2.2.1 bt398.2.2.2.2.1))) else (laws_FnRunnersMeet.j0 k l1 bt398.1 bt398.2.2.2.2.2 bt406.1 bt406.2 bt414.1 bt418.1 bt418.2.1 bt418.2.2 bt424.1 bt424.2 bt432.1 bt432.2 true bt398.2.1 bt398.2.2.1 bt398.2.2.2.1 bt398.2.2.2.2.1)))) else (laws_FnRunnersMeet.j0 k l1 bt398.1 bt398.2.2.2.2.2 bt406.1 bt406.2 bt414.1 bt418.1 bt418.2.1 bt418.2.2 bt424.1 bt424.2 bt432.1 bt432.2 true bt398.2.1 bt398.2.2.1 bt398.2.2.2.1 bt398.2.2.2.2.1)) else (laws_FnRunnersMeet.j0 k l1 bt398.1 bt398.2.2.2.2.2 bt406.1 bt406.2 bt414.1 bt418.1 bt418.2.1 bt418.2.2 bt424.1 bt424.2 bt432.1 bt432.2 true bt398.2.1 bt398.2.2.1 bt398.2.2.2.1 bt398.2.2.2.2.1))) else (laws_FnRunnersMeet.j0 k l1 bt398.1 bt398.2.2.2.2.2 bt406.1 bt406.2 bt414.1 bt418.1 bt418.2.1 bt418.2.2 bt424.1 bt424.2 bt432.1 bt432.2 true bt398.2.1 bt398.2.2.1 bt398.2.2.2.1 bt398.2.2.2.2.1))) else (laws_FnRunnersMeet.j0 k l1 bt398.1 bt398.2.2.2.2.2 bt406.1 bt406.2 bt414.1 bt418.1 bt418.2.1 bt418.2.2 bt424.1 bt424.2 bt432.1 bt432.2 true bt398.2.1 bt398.2.2.1 bt398.2.2.2.1 bt398.2.2.2.2.1))))))))))))))))) = some r := h
 clear h
 replace H := Option.bind_eq_some_iff.mp H
 obtain ⟨t397, A30, H⟩ := H
 (try dsimp only at H)
 have A3 := Aside0.mk A30
 clear A30
 by_cases c4 : t397 = true
 ·
  subst c4
  rw [if_pos rfl] at H
  obtain rfl := Option.some.inj H
  go_enter Try.func6, Try.ntmps6
  go_wp2_with (first | ((with_reducible refine gate_callee (f := 42) rfl ?_); refine goesL_ (some 79) rfl rfl Try.func42 (by kernel_rfl) rfl #[.slice A0 l0.length c0, .slice A1 l1.length c1] rfl (by (try simp only [List.map_toArray, List.map_cons, List.map_nil]); first | done | rfl | (simp only [List.length_drop, List.length_take]; rfl)) ?_; (with_reducible refine (laws_big.calls _ _ l0 _ _ l1 true _ ?side1 ?side2 ?side3 ?side4 A3.out).mono ?_); (case side1 => repeat (first | exact HR0.out | (with_reducible refine Kd.C_alloc ?_ _) | (with_reducible refine Kd.C_drewN ?_ _) | (with_reducible refine Kd.C_drew ?_))); (case side2 => exact HC0.out); (case side3 => repeat (first | exact HR1.out | (with_reducible refine Kd.C_alloc ?_ _) | (with_reducible refine Kd.C_drewN ?_ _) | (with_reducible refine Kd.C_drew ?_))); (case side4 => exact HC1.out); rintro e w' ⟨rfl, ⟨nd, rfl⟩⟩; refine ⟨_, rfl, ?_⟩))
  go_ret
  exact ⟨by first | rfl | (simp [errW_none, errW_some] <;> rfl) | (simp [*, errW_none, errW_some] <;> rfl), by repeat (first | (with_reducible first | exact HB.out | apply below_alloc | apply pw_below_drewN | apply below_drew1) | exact HB.out)⟩
 ·
  replace c4 := Bool.eq_false_iff.mpr c4
  subst c4
  rw [if_neg (show ¬ (false = true) by decide)] at H
  replace H := Option.bind_eq_some_iff.mp H
  obtain ⟨⟨t398, t399, t400, t401, t402, t403⟩, A50, H⟩ := H
  (try dsimp only at H)
  have A5 := Aside0.mk A50
  clear A50
  replace H := Option.bind_eq_some_iff.mp H
  obtain ⟨⟨t406, t409⟩, A60, H⟩ := H
  (try dsimp only at H)
  have A6 := Aside0.mk A60
  clear A60
  replace H := Option.bind_eq_some_iff.mp H
  obtain ⟨⟨t410, t413⟩, A70, H⟩ := H
  (try dsimp only at H)
  have A7 := Aside0.mk A70
  clear A70
  replace H := Option.bind_eq_some_iff.mp H
  obtain ⟨⟨t414, t415⟩, A80, H⟩ := H
  (try dsimp only at H)
  have A8 := Aside0.mk A80
  clear A80
  replace H := Option.bind_eq_some_iff.mp H
  obtain ⟨⟨t416, t417⟩, A90, H⟩ := H
  (try dsimp only at H)
  have A9 := Aside0.mk A90
  clear A90
  replace H := Option.bind_eq_some_iff.mp H
  obtain ⟨⟨t418, t419, t420⟩, A100, H⟩ := H
  (try dsimp only at H)
  have A10 := Aside0.mk A100
  clear A100
  replace H := Option.bind_eq_some_iff.mp H
  obtain ⟨⟨t421, t422, t423⟩, A110, H⟩ := H
  (try dsimp only at H)
  have A11 := Aside0.mk A110
  clear A110
  replace H := Option.bind_eq_some_iff.mp H
  obtain ⟨⟨t424, t427⟩, A120, H⟩ := H
  (try dsimp only at H)
  have A12 := Aside0.mk A120
  clear A120
  replace H := Option.bind_eq_some_iff.mp H
  obtain ⟨⟨t428, t431⟩, A130, H⟩ := H
  (try dsimp only at H)
  have A13 := Aside0.mk A130
  clear A130
  replace H := Option.bind_eq_some_iff.mp H
  obtain ⟨⟨t432, t433⟩, A140, H⟩ := H
  (try dsimp only at H)
  have A14 := Aside0.mk A140
  clear A140
  replace H := Option.bind_eq_some_iff.mp H
  obtain ⟨⟨t434, t435⟩, A150, H⟩ := H
  (try dsimp only at H)
  have A15 := Aside0.mk A150
  clear A150
  have HC16 := Aside0.mk H
  clear H
  go_enter Try.func6, Try.ntmps6
  go_upto_region 14 with (first | ((with_reducible refine gate_callee (f := 42) rfl ?_); refine goesL_ (some 79) rfl rfl Try.func42 (by kernel_rfl) rfl #[.slice A0 l0.length c0, .slice A1 l1.length c1] rfl (by (try simp only [List.map_toArray, List.map_cons, List.map_nil]); first | done | rfl | (simp only [List.length_drop, List.length_take]; rfl)) ?_; (with_reducible refine (laws_big.calls _ _ l0 _ _ l1 false _ ?side1 ?side2 ?side3 ?side4 A3.out).mono ?_); (case side1 => repeat (first | exact HR0.out | (with_reducible refine Kd.C_alloc ?_ _) | (with_reducible refine Kd.C_drewN ?_ _) | (with_reducible refine Kd.C_drew ?_))); (case side2 => exact HC0.out); (case side3 => repeat (first | exact HR1.out | (with_reducible refine Kd.C_alloc ?_ _) | (with_reducible refine Kd.C_drewN ?_ _) | (with_reducible refine Kd.C_drew ?_))); (case side4 => exact HC1.out); rintro e w' ⟨rfl, ⟨nd, rfl⟩⟩; refine ⟨_, rfl, ?_⟩) | ((with_reducible refine gate_callee (f := 43) rfl ?_); refine goesL_ (some 82) rfl rfl Try.func43 (by kernel_rfl) rfl #[.slice A0 l0.length c0] rfl (by (try simp only [List.map_toArray, List.map_cons, List.map_nil]); first | done | rfl | (simp only [List.length_drop, List.length_take]; rfl)) ?_; (with_reducible refine (spec_DrawMeetingTimes.calls _ _ l0 t398 t399 t400 t401 t402 t403 _ ?side1 ?side2 A5.out).mono ?_); (case side1 => repeat (first | exact HR0.out | (with_reducible refine Kd.C_alloc ?_ _) | (with_reducible refine Kd.C_drewN ?_ _) | (with_reducible refine Kd.C_drew ?_))); (case side2 => exact HC0.out); rintro e w17 ⟨rfl, hb⟩; refine ⟨_, rfl, ?_⟩; have n0_ := Aside0.mk (below_step bw_ hb); clear HB; have HB := n0_; clear n0_; (try clear hb); (try clear hb2); (try clear hk); (try clear hi)) | ((with_reducible refine gate_dst (N := 6) rfl ?_); (try (refine gate_guard (by rfl) ?_; dsimp only)); refine box_event ?hg (N := 6) ?hd (cs := #[.int .i64 0, .int .i64 0]) (t := 45) ?hr ?_; (case hd => rfl); (case hg => rfl); (case hr => first | (go_simp; done) | (go_simp; rfl)); intro gb404 hg w18 hbox hb; have n0_ := Aside0.mk (below_step bw_ hb); have n1_ := Aside0.mk (hbox); have n2_ := Aside0.mk ((by rw [hg]; exact (below_size bw_) : w.heap.size ≤ gb404)); have n3_ := Aside0.mk ((by rw [hg]; exact (below_size bw_) : w.heap.size ≤ gb404)); clear HB; have HB := n0_; have BK404 := n1_; have GW404 := n2_; have GE404 := n3_; clear n0_ n1_ n2_ n3_; clear hb hbox hg) | ((with_reducible refine gate_dst (N := 7) rfl ?_); (try (refine gate_guard (by rfl) ?_; dsimp only)); refine box_event ?hg (N := 7) ?hd (cs := #[.int .i64 0, .int .i64 0]) (t := 45) ?hr ?_; (case hd => rfl); (case hg => rfl); (case hr => first | (go_simp; done) | (go_simp; rfl)); intro gb405 hg w19 hbox hb; have n0_ := Aside0.mk (blk_below (g := gb404) (o := .cells #[.int .i64 0, .int .i64 0] 45 (0, 0)) bk_ hb); have n1_ := Aside0.mk (below_step bw_ hb); have n2_ := Aside0.mk (hbox); have n3_ := Aside0.mk ((by rw [hg]; exact (below_size bw_) : w.heap.size ≤ gb405)); have n4_ := Aside0.mk ((by rw [hg]; exact (below_size bw_) : w.heap.size ≤ gb405)); have n5_ := Aside0.mk ((by rw [hg]; exact Nat.ne_of_lt (blk_lt (g := gb404) (o := .cells #[.int .i64 0, .int .i64 0] 45 (0, 0)) bk_) : gb404 ≠ gb405)); have n6_ := Aside0.mk ((by rw [hg]; exact Nat.ne_of_gt (blk_lt (g := gb404) (o := .cells #[.int .i64 0, .int .i64 0] 45 (0, 0)) bk_) : gb405 ≠ gb404)); clear BK404; clear HB; have BK404 := n0_; have HB := n1_; have BK405 := n2_; have GW405 := n3_; have GE405 := n4_; have NB404_405 := n5_; have NB405_404 := n6_; clear n0_ n1_ n2_ n3_ n4_ n5_ n6_; clear hb hbox hg; have hnb20 := NB404_405.out; have hnc20 := NB405_404.out; have hcz21_0 : w19.cell? ⟨gb404, 0, none⟩ = some (.int .i64 0) := (blk_cell BK404.out 0).trans rfl; have hcz21_1 : w19.cell? ⟨gb404, 1, none⟩ = some (.int .i64 0) := (blk_cell BK404.out 1).trans rfl; have hfz21_0 := blk_frozen BK404.out 0; have hfz21_1 := blk_frozen BK404.out 1; have hcz22_0 : w19.cell? ⟨gb405, 0, none⟩ = some (.int .i64 0) := (blk_cell BK405.out 0).trans rfl; have hcz22_1 : w19.cell? ⟨gb405, 1, none⟩ = some (.int .i64 0) := (blk_cell BK405.out 1).trans rfl; have hfz22_0 := blk_frozen BK405.out 0; have hfz22_1 := blk_frozen BK405.out 1) | ((with_reducible refine gate_callee (f := 22) rfl ?_); refine goesL_ (some 92) rfl rfl Try.func22 (by kernel_rfl) rfl #[.int .i64 t398, .agg #[.int .i64 t399, .int .i64 t400], .agg #[.int .i64 t401, .int .i64 t402], .int .i64 t403] rfl (by (try simp only [List.map_toArray, List.map_cons, List.map_nil]); first | done | rfl | (simp only [List.length_drop, List.length_take]; rfl)) ?_; (with_reducible refine (impl_MeetingTimes.calls k t398 t399 t400 t401 t402 t403 t406 t409 _ A6.out).mono ?_); rintro e w23 ⟨v407, rfl, ho0, hb⟩; refine ⟨_, rfl, ?_⟩; have n0_ := Aside0.mk (Kd.R_lower ho0 (below_size bw_)); have n1_ := Aside0.mk (blk_below (g := gb404) (o := .cells #[.int .i64 t399, .int .i64 t400] 45 (0, 0)) (by (with_reducible repeat (first | refine blk_drewN ?_ _ | refine blk_drew ?_ | refine blk_alloc ?_ _)); refine blk_far ?_ NB404_405.out _; (with_reducible repeat (first | refine blk_drewN ?_ _ | refine blk_drew ?_ | refine blk_alloc ?_ _)); refine blk_far ?_ NB404_405.out _; (with_reducible repeat (first | refine blk_drewN ?_ _ | refine blk_drew ?_ | refine blk_alloc ?_ _)); refine blk_put (cs := #[.int .i64 t399, .int .i64 0]) ?_ 1 _ rfl; (with_reducible repeat (first | refine blk_drewN ?_ _ | refine blk_drew ?_ | refine blk_alloc ?_ _)); refine blk_put (cs := #[.int .i64 0, .int .i64 0]) ?_ 0 _ rfl; (with_reducible repeat (first | refine blk_drewN ?_ _ | refine blk_drew ?_ | refine blk_alloc ?_ _)); exact BK404.out) hb); have n2_ := Aside0.mk (blk_below (g := gb405) (o := .cells #[.int .i64 t401, .int .i64 t402] 45 (0, 0)) (by (with_reducible repeat (first | refine blk_drewN ?_ _ | refine blk_drew ?_ | refine blk_alloc ?_ _)); refine blk_put (cs := #[.int .i64 t401, .int .i64 0]) ?_ 1 _ rfl; (with_reducible repeat (first | refine blk_drewN ?_ _ | refine blk_drew ?_ | refine blk_alloc ?_ _)); refine blk_put (cs := #[.int .i64 0, .int .i64 0]) ?_ 0 _ rfl; (with_reducible repeat (first | refine blk_drewN ?_ _ | refine blk_drew ?_ | refine blk_alloc ?_ _)); refine blk_far ?_ NB405_404.out _; (with_reducible repeat (first | refine blk_drewN ?_ _ | refine blk_drew ?_ | refine blk_alloc ?_ _)); refine blk_far ?_ NB405_404.out _; (with_reducible repeat (first | refine blk_drewN ?_ _ | refine blk_drew ?_ | refine blk_alloc ?_ _)); exact BK405.out) hb); have n3_ := Aside0.mk (below_step bw_ hb); clear BK404; clear BK405; clear HB; have HO408 := n0_; have BK404 := n1_; have BK405 := n2_; have HB := n3_; clear n0_ n1_ n2_ n3_; (try clear hb); (try clear hb2); (try clear hk); (try clear hi); (try clear ho0); have hcz24_0 : w23.cell? ⟨gb404, 0, none⟩ = some (.int .i64 t399) := (blk_cell BK404.out 0).trans rfl; have hcz24_1 : w23.cell? ⟨gb404, 1, none⟩ = some (.int .i64 t400) := (blk_cell BK404.out 1).trans rfl; have hfz24_0 := blk_frozen BK404.out 0; have hfz24_1 := blk_frozen BK404.out 1; have hcz25_0 : w23.cell? ⟨gb405, 0, none⟩ = some (.int .i64 t401) := (blk_cell BK405.out 0).trans rfl; have hcz25_1 : w23.cell? ⟨gb405, 1, none⟩ = some (.int .i64 t402) := (blk_cell BK405.out 1).trans rfl; have hfz25_0 := blk_frozen BK405.out 0; have hfz25_1 := blk_frozen BK405.out 1) | ((with_reducible refine gate_callee (f := 23) rfl ?_); refine goesL_ (some 100) rfl rfl Try.func23 (by kernel_rfl) rfl #[.int .i64 t398, .agg #[.int .i64 t399, .int .i64 t400], .agg #[.int .i64 t401, .int .i64 t402], .int .i64 t403] rfl (by (try simp only [List.map_toArray, List.map_cons, List.map_nil]); first | done | rfl | (simp only [List.length_drop, List.length_take]; rfl)) ?_; (with_reducible refine (spec_MeetingTimes.calls k t398 t399 t400 t401 t402 t403 t410 t413 _ A7.out).mono ?_); rintro e w26 ⟨v411, rfl, ho0, hb⟩; refine ⟨_, rfl, ?_⟩; have n0_ := Aside0.mk (Kd.R_elder' (by (with_reducible repeat (first | apply Kd.R_alloc | apply Kd.R_drewN | apply Kd.R_drew)); exact HO408.out) (Kd.R_base ho0) hb); have n1_ := Aside0.mk (Kd.R_lower (Kd.R_new' ho0 (Kd.R_lt (by (with_reducible repeat (first | apply Kd.R_alloc | apply Kd.R_drewN | apply Kd.R_drew)); exact HO408.out))) (below_size bw_)); have n2_ := Aside0.mk (blk_below (g := gb404) (o := .cells #[.int .i64 t399, .int .i64 t400] 45 (0, 0)) bk_ hb); have n3_ := Aside0.mk (blk_below (g := gb405) (o := .cells #[.int .i64 t401, .int .i64 t402] 45 (0, 0)) bk_ hb); have n4_ := Aside0.mk (below_step bw_ hb); clear HO408; clear BK404; clear BK405; clear HB; have HO408 := n0_; have HO412 := n1_; have BK404 := n2_; have BK405 := n3_; have HB := n4_; clear n0_ n1_ n2_ n3_ n4_; (try clear hb); (try clear hb2); (try clear hk); (try clear hi); (try clear ho0); have hcz27_0 : w26.cell? ⟨gb404, 0, none⟩ = some (.int .i64 t399) := (blk_cell BK404.out 0).trans rfl; have hcz27_1 : w26.cell? ⟨gb404, 1, none⟩ = some (.int .i64 t400) := (blk_cell BK404.out 1).trans rfl; have hfz27_0 := blk_frozen BK404.out 0; have hfz27_1 := blk_frozen BK404.out 1; have hcz28_0 : w26.cell? ⟨gb405, 0, none⟩ = some (.int .i64 t401) := (blk_cell BK405.out 0).trans rfl; have hcz28_1 : w26.cell? ⟨gb405, 1, none⟩ = some (.int .i64 t402) := (blk_cell BK405.out 1).trans rfl; have hfz28_0 := blk_frozen BK405.out 0; have hfz28_1 := blk_frozen BK405.out 1) | ((with_reducible refine gate_callee (f := 24) rfl ?_); refine goesL_ (some 108) rfl rfl Try.func24 (by kernel_rfl) rfl #[.int .i64 t398, .agg #[.int .i64 t399, .int .i64 t400], .agg #[.int .i64 t401, .int .i64 t402], .int .i64 t403] rfl (by (try simp only [List.map_toArray, List.map_cons, List.map_nil]); first | done | rfl | (simp only [List.length_drop, List.length_take]; rfl)) ?_; (with_reducible refine (impl_CountOvertakings.calls k t398 t399 t400 t401 t402 t403 t414 t415 _ A8.out).mono ?_); rintro e w29 ⟨rfl, hb⟩; refine ⟨_, rfl, ?_⟩; have n0_ := Aside0.mk (Kd.R_below (by (with_reducible repeat (first | apply Kd.R_alloc | apply Kd.R_drewN | apply Kd.R_drew)); exact HO408.out) hb); have n1_ := Aside0.mk (Kd.R_below (by (with_reducible repeat (first | apply Kd.R_alloc | apply Kd.R_drewN | apply Kd.R_drew)); exact HO412.out) hb); have n2_ := Aside0.mk (blk_below (g := gb404) (o := .cells #[.int .i64 t399, .int .i64 t400] 45 (0, 0)) bk_ hb); have n3_ := Aside0.mk (blk_below (g := gb405) (o := .cells #[.int .i64 t401, .int .i64 t402] 45 (0, 0)) bk_ hb); have n4_ := Aside0.mk (below_step bw_ hb); clear HO408; clear HO412; clear BK404; clear BK405; clear HB; have HO408 := n0_; have HO412 := n1_; have BK404 := n2_; have BK405 := n3_; have HB := n4_; clear n0_ n1_ n2_ n3_ n4_; (try clear hb); (try clear hb2); (try clear hk); (try clear hi); have hcz30_0 : w29.cell? ⟨gb404, 0, none⟩ = some (.int .i64 t399) := (blk_cell BK404.out 0).trans rfl; have hcz30_1 : w29.cell? ⟨gb404, 1, none⟩ = some (.int .i64 t400) := (blk_cell BK404.out 1).trans rfl; have hfz30_0 := blk_frozen BK404.out 0; have hfz30_1 := blk_frozen BK404.out 1; have hcz31_0 : w29.cell? ⟨gb405, 0, none⟩ = some (.int .i64 t401) := (blk_cell BK405.out 0).trans rfl; have hcz31_1 : w29.cell? ⟨gb405, 1, none⟩ = some (.int .i64 t402) := (blk_cell BK405.out 1).trans rfl; have hfz31_0 := blk_frozen BK405.out 0; have hfz31_1 := blk_frozen BK405.out 1) | ((with_reducible refine gate_callee (f := 25) rfl ?_); refine goesL_ (some 116) rfl rfl Try.func25 (by kernel_rfl) rfl #[.int .i64 t398, .agg #[.int .i64 t399, .int .i64 t400], .agg #[.int .i64 t401, .int .i64 t402], .int .i64 t403] rfl (by (try simp only [List.map_toArray, List.map_cons, List.map_nil]); first | done | rfl | (simp only [List.length_drop, List.length_take]; rfl)) ?_; (with_reducible refine (spec_CountOvertakings.calls k t398 t399 t400 t401 t402 t403 t416 t417 _ A9.out).mono ?_); rintro e w32 ⟨rfl, hb⟩; refine ⟨_, rfl, ?_⟩; have n0_ := Aside0.mk (Kd.R_below (by (with_reducible repeat (first | apply Kd.R_alloc | apply Kd.R_drewN | apply Kd.R_drew)); exact HO408.out) hb); have n1_ := Aside0.mk (Kd.R_below (by (with_reducible repeat (first | apply Kd.R_alloc | apply Kd.R_drewN | apply Kd.R_drew)); exact HO412.out) hb); have n2_ := Aside0.mk (blk_below (g := gb404) (o := .cells #[.int .i64 t399, .int .i64 t400] 45 (0, 0)) bk_ hb); have n3_ := Aside0.mk (blk_below (g := gb405) (o := .cells #[.int .i64 t401, .int .i64 t402] 45 (0, 0)) bk_ hb); have n4_ := Aside0.mk (below_step bw_ hb); clear HO408; clear HO412; clear BK404; clear BK405; clear HB; have HO408 := n0_; have HO412 := n1_; have BK404 := n2_; have BK405 := n3_; have HB := n4_; clear n0_ n1_ n2_ n3_ n4_; (try clear hb); (try clear hb2); (try clear hk); (try clear hi); have hcz33_0 : w32.cell? ⟨gb404, 0, none⟩ = some (.int .i64 t399) := (blk_cell BK404.out 0).trans rfl; have hcz33_1 : w32.cell? ⟨gb404, 1, none⟩ = some (.int .i64 t400) := (blk_cell BK404.out 1).trans rfl; have hfz33_0 := blk_frozen BK404.out 0; have hfz33_1 := blk_frozen BK404.out 1; have hcz34_0 : w32.cell? ⟨gb405, 0, none⟩ = some (.int .i64 t401) := (blk_cell BK405.out 0).trans rfl; have hcz34_1 : w32.cell? ⟨gb405, 1, none⟩ = some (.int .i64 t402) := (blk_cell BK405.out 1).trans rfl; have hfz34_0 := blk_frozen BK405.out 0; have hfz34_1 := blk_frozen BK405.out 1) | ((with_reducible refine gate_callee (f := 26) rfl ?_); refine goesL_ (some 123) rfl rfl Try.func26 (by kernel_rfl) rfl #[.int .i64 t398, .agg #[.int .i64 t399, .int .i64 t400], .agg #[.int .i64 t401, .int .i64 t402]] rfl (by (try simp only [List.map_toArray, List.map_cons, List.map_nil]); first | done | rfl | (simp only [List.length_drop, List.length_take]; rfl)) ?_; (with_reducible refine (impl_FirstMeet.calls k t398 t399 t400 t401 t402 t418 t419 t420 _ A10.out).mono ?_); rintro e w35 ⟨rfl, hb⟩; refine ⟨_, rfl, ?_⟩; have n0_ := Aside0.mk (Kd.R_below (by (with_reducible repeat (first | apply Kd.R_alloc | apply Kd.R_drewN | apply Kd.R_drew)); exact HO408.out) hb); have n1_ := Aside0.mk (Kd.R_below (by (with_reducible repeat (first | apply Kd.R_alloc | apply Kd.R_drewN | apply Kd.R_drew)); exact HO412.out) hb); have n2_ := Aside0.mk (blk_below (g := gb404) (o := .cells #[.int .i64 t399, .int .i64 t400] 45 (0, 0)) bk_ hb); have n3_ := Aside0.mk (blk_below (g := gb405) (o := .cells #[.int .i64 t401, .int .i64 t402] 45 (0, 0)) bk_ hb); have n4_ := Aside0.mk (below_step bw_ hb); clear HO408; clear HO412; clear BK404; clear BK405; clear HB; have HO408 := n0_; have HO412 := n1_; have BK404 := n2_; have BK405 := n3_; have HB := n4_; clear n0_ n1_ n2_ n3_ n4_; (try clear hb); (try clear hb2); (try clear hk); (try clear hi); have hcz36_0 : w35.cell? ⟨gb404, 0, none⟩ = some (.int .i64 t399) := (blk_cell BK404.out 0).trans rfl; have hcz36_1 : w35.cell? ⟨gb404, 1, none⟩ = some (.int .i64 t400) := (blk_cell BK404.out 1).trans rfl; have hfz36_0 := blk_frozen BK404.out 0; have hfz36_1 := blk_frozen BK404.out 1; have hcz37_0 : w35.cell? ⟨gb405, 0, none⟩ = some (.int .i64 t401) := (blk_cell BK405.out 0).trans rfl; have hcz37_1 : w35.cell? ⟨gb405, 1, none⟩ = some (.int .i64 t402) := (blk_cell BK405.out 1).trans rfl; have hfz37_0 := blk_frozen BK405.out 0; have hfz37_1 := blk_frozen BK405.out 1) | ((with_reducible refine gate_callee (f := 27) rfl ?_); refine goesL_ (some 131) rfl rfl Try.func27 (by kernel_rfl) rfl #[.int .i64 t398, .agg #[.int .i64 t399, .int .i64 t400], .agg #[.int .i64 t401, .int .i64 t402]] rfl (by (try simp only [List.map_toArray, List.map_cons, List.map_nil]); first | done | rfl | (simp only [List.length_drop, List.length_take]; rfl)) ?_; (with_reducible refine (spec_FirstMeet.calls k t398 t399 t400 t401 t402 t421 t422 t423 _ A11.out).mono ?_); rintro e w38 ⟨rfl, hb⟩; refine ⟨_, rfl, ?_⟩; have n0_ := Aside0.mk (Kd.R_below (by (with_reducible repeat (first | apply Kd.R_alloc | apply Kd.R_drewN | apply Kd.R_drew)); exact HO408.out) hb); have n1_ := Aside0.mk (Kd.R_below (by (with_reducible repeat (first | apply Kd.R_alloc | apply Kd.R_drewN | apply Kd.R_drew)); exact HO412.out) hb); have n2_ := Aside0.mk (blk_below (g := gb404) (o := .cells #[.int .i64 t399, .int .i64 t400] 45 (0, 0)) bk_ hb); have n3_ := Aside0.mk (blk_below (g := gb405) (o := .cells #[.int .i64 t401, .int .i64 t402] 45 (0, 0)) bk_ hb); have n4_ := Aside0.mk (below_step bw_ hb); clear HO408; clear HO412; clear BK404; clear BK405; clear HB; have HO408 := n0_; have HO412 := n1_; have BK404 := n2_; have BK405 := n3_; have HB := n4_; clear n0_ n1_ n2_ n3_ n4_; (try clear hb); (try clear hb2); (try clear hk); (try clear hi); have hcz39_0 : w38.cell? ⟨gb404, 0, none⟩ = some (.int .i64 t399) := (blk_cell BK404.out 0).trans rfl; have hcz39_1 : w38.cell? ⟨gb404, 1, none⟩ = some (.int .i64 t400) := (blk_cell BK404.out 1).trans rfl; have hfz39_0 := blk_frozen BK404.out 0; have hfz39_1 := blk_frozen BK404.out 1; have hcz40_0 : w38.cell? ⟨gb405, 0, none⟩ = some (.int .i64 t401) := (blk_cell BK405.out 0).trans rfl; have hcz40_1 : w38.cell? ⟨gb405, 1, none⟩ = some (.int .i64 t402) := (blk_cell BK405.out 1).trans rfl; have hfz40_0 := blk_frozen BK405.out 0; have hfz40_1 := blk_frozen BK405.out 1) | ((with_reducible refine gate_callee (f := 28) rfl ?_); refine goesL_ (some 139) rfl rfl Try.func28 (by kernel_rfl) rfl #[.int .i64 t398, .agg #[.int .i64 t399, .int .i64 t400], .agg #[.int .i64 t401, .int .i64 t402]] rfl (by (try simp only [List.map_toArray, List.map_cons, List.map_nil]); first | done | rfl | (simp only [List.length_drop, List.length_take]; rfl)) ?_; (with_reducible refine (impl_MeetingPlaces.calls k t398 t399 t400 t401 t402 t424 t427 _ A12.out).mono ?_); rintro e w41 ⟨v425, rfl, ho0, hb⟩; refine ⟨_, rfl, ?_⟩; have n0_ := Aside0.mk (Kd.R_elder' (by (with_reducible repeat (first | apply Kd.R_alloc | apply Kd.R_drewN | apply Kd.R_drew)); exact HO408.out) (Kd.R_base ho0) hb); have n1_ := Aside0.mk (Kd.R_elder' (by (with_reducible repeat (first | apply Kd.R_alloc | apply Kd.R_drewN | apply Kd.R_drew)); exact HO412.out) (Kd.R_base ho0) hb); have n2_ := Aside0.mk (Kd.R_lower (Kd.R_new' (Kd.R_new' ho0 (Kd.R_lt (by (with_reducible repeat (first | apply Kd.R_alloc | apply Kd.R_drewN | apply Kd.R_drew)); exact HO408.out))) (Kd.R_lt (by (with_reducible repeat (first | apply Kd.R_alloc | apply Kd.R_drewN | apply Kd.R_drew)); exact HO412.out))) (below_size bw_)); have n3_ := Aside0.mk (blk_below (g := gb404) (o := .cells #[.int .i64 t399, .int .i64 t400] 45 (0, 0)) bk_ hb); have n4_ := Aside0.mk (blk_below (g := gb405) (o := .cells #[.int .i64 t401, .int .i64 t402] 45 (0, 0)) bk_ hb); have n5_ := Aside0.mk (below_step bw_ hb); clear HO408; clear HO412; clear BK404; clear BK405; clear HB; have HO408 := n0_; have HO412 := n1_; have HO426 := n2_; have BK404 := n3_; have BK405 := n4_; have HB := n5_; clear n0_ n1_ n2_ n3_ n4_ n5_; (try clear hb); (try clear hb2); (try clear hk); (try clear hi); (try clear ho0); have hcz42_0 : w41.cell? ⟨gb404, 0, none⟩ = some (.int .i64 t399) := (blk_cell BK404.out 0).trans rfl; have hcz42_1 : w41.cell? ⟨gb404, 1, none⟩ = some (.int .i64 t400) := (blk_cell BK404.out 1).trans rfl; have hfz42_0 := blk_frozen BK404.out 0; have hfz42_1 := blk_frozen BK404.out 1; have hcz43_0 : w41.cell? ⟨gb405, 0, none⟩ = some (.int .i64 t401) := (blk_cell BK405.out 0).trans rfl; have hcz43_1 : w41.cell? ⟨gb405, 1, none⟩ = some (.int .i64 t402) := (blk_cell BK405.out 1).trans rfl; have hfz43_0 := blk_frozen BK405.out 0; have hfz43_1 := blk_frozen BK405.out 1) | ((with_reducible refine gate_callee (f := 29) rfl ?_); refine goesL_ (some 146) rfl rfl Try.func29 (by kernel_rfl) rfl #[.int .i64 t398, .agg #[.int .i64 t399, .int .i64 t400], .agg #[.int .i64 t401, .int .i64 t402]] rfl (by (try simp only [List.map_toArray, List.map_cons, List.map_nil]); first | done | rfl | (simp only [List.length_drop, List.length_take]; rfl)) ?_; (with_reducible refine (spec_MeetingPlaces.calls k t398 t399 t400 t401 t402 t428 t431 _ A13.out).mono ?_); rintro e w44 ⟨v429, rfl, ho0, hb⟩; refine ⟨_, rfl, ?_⟩; have n0_ := Aside0.mk (Kd.R_elder' (by (with_reducible repeat (first | apply Kd.R_alloc | apply Kd.R_drewN | apply Kd.R_drew)); exact HO408.out) (Kd.R_base ho0) hb); have n1_ := Aside0.mk (Kd.R_elder' (by (with_reducible repeat (first | apply Kd.R_alloc | apply Kd.R_drewN | apply Kd.R_drew)); exact HO412.out) (Kd.R_base ho0) hb); have n2_ := Aside0.mk (Kd.R_elder' (by (with_reducible repeat (first | apply Kd.R_alloc | apply Kd.R_drewN | apply Kd.R_drew)); exact HO426.out) (Kd.R_base ho0) hb); have n3_ := Aside0.mk (Kd.R_lower (Kd.R_new' (Kd.R_new' (Kd.R_new' ho0 (Kd.R_lt (by (with_reducible repeat (first | apply Kd.R_alloc | apply Kd.R_drewN | apply Kd.R_drew)); exact HO408.out))) (Kd.R_lt (by (with_reducible repeat (first | apply Kd.R_alloc | apply Kd.R_drewN | apply Kd.R_drew)); exact HO412.out))) (Kd.R_lt (by (with_reducible repeat (first | apply Kd.R_alloc | apply Kd.R_drewN | apply Kd.R_drew)); exact HO426.out))) (below_size bw_)); have n4_ := Aside0.mk (blk_below (g := gb404) (o := .cells #[.int .i64 t399, .int .i64 t400] 45 (0, 0)) bk_ hb); have n5_ := Aside0.mk (blk_below (g := gb405) (o := .cells #[.int .i64 t401, .int .i64 t402] 45 (0, 0)) bk_ hb); have n6_ := Aside0.mk (below_step bw_ hb); clear HO408; clear HO412; clear HO426; clear BK404; clear BK405; clear HB; have HO408 := n0_; have HO412 := n1_; have HO426 := n2_; have HO430 := n3_; have BK404 := n4_; have BK405 := n5_; have HB := n6_; clear n0_ n1_ n2_ n3_ n4_ n5_ n6_; (try clear hb); (try clear hb2); (try clear hk); (try clear hi); (try clear ho0); have hcz45_0 : w44.cell? ⟨gb404, 0, none⟩ = some (.int .i64 t399) := (blk_cell BK404.out 0).trans rfl; have hcz45_1 : w44.cell? ⟨gb404, 1, none⟩ = some (.int .i64 t400) := (blk_cell BK404.out 1).trans rfl; have hfz45_0 := blk_frozen BK404.out 0; have hfz45_1 := blk_frozen BK404.out 1; have hcz46_0 : w44.cell? ⟨gb405, 0, none⟩ = some (.int .i64 t401) := (blk_cell BK405.out 0).trans rfl; have hcz46_1 : w44.cell? ⟨gb405, 1, none⟩ = some (.int .i64 t402) := (blk_cell BK405.out 1).trans rfl; have hfz46_0 := blk_frozen BK405.out 0; have hfz46_1 := blk_frozen BK405.out 1) | ((with_reducible refine gate_callee (f := 30) rfl ?_); refine goesL_ (some 154) rfl rfl Try.func30 (by kernel_rfl) rfl #[.int .i64 t398, .agg #[.int .i64 t399, .int .i64 t400], .agg #[.int .i64 t401, .int .i64 t402], .int .i64 t403] rfl (by (try simp only [List.map_toArray, List.map_cons, List.map_nil]); first | done | rfl | (simp only [List.length_drop, List.length_take]; rfl)) ?_; (with_reducible refine (impl_LeadBetween.calls k t398 t399 t400 t401 t402 t403 t432 t433 _ A14.out).mono ?_); rintro e w47 ⟨rfl, hb⟩; refine ⟨_, rfl, ?_⟩; have n0_ := Aside0.mk (Kd.R_below (by (with_reducible repeat (first | apply Kd.R_alloc | apply Kd.R_drewN | apply Kd.R_drew)); exact HO408.out) hb); have n1_ := Aside0.mk (Kd.R_below (by (with_reducible repeat (first | apply Kd.R_alloc | apply Kd.R_drewN | apply Kd.R_drew)); exact HO412.out) hb); have n2_ := Aside0.mk (Kd.R_below (by (with_reducible repeat (first | apply Kd.R_alloc | apply Kd.R_drewN | apply Kd.R_drew)); exact HO426.out) hb); have n3_ := Aside0.mk (Kd.R_below (by (with_reducible repeat (first | apply Kd.R_alloc | apply Kd.R_drewN | apply Kd.R_drew)); exact HO430.out) hb); have n4_ := Aside0.mk (blk_below (g := gb404) (o := .cells #[.int .i64 t399, .int .i64 t400] 45 (0, 0)) bk_ hb); have n5_ := Aside0.mk (blk_below (g := gb405) (o := .cells #[.int .i64 t401, .int .i64 t402] 45 (0, 0)) bk_ hb); have n6_ := Aside0.mk (below_step bw_ hb); clear HO408; clear HO412; clear HO426; clear HO430; clear BK404; clear BK405; clear HB; have HO408 := n0_; have HO412 := n1_; have HO426 := n2_; have HO430 := n3_; have BK404 := n4_; have BK405 := n5_; have HB := n6_; clear n0_ n1_ n2_ n3_ n4_ n5_ n6_; (try clear hb); (try clear hb2); (try clear hk); (try clear hi); have hcz48_0 : w47.cell? ⟨gb404, 0, none⟩ = some (.int .i64 t399) := (blk_cell BK404.out 0).trans rfl; have hcz48_1 : w47.cell? ⟨gb404, 1, none⟩ = some (.int .i64 t400) := (blk_cell BK404.out 1).trans rfl; have hfz48_0 := blk_frozen BK404.out 0; have hfz48_1 := blk_frozen BK404.out 1; have hcz49_0 : w47.cell? ⟨gb405, 0, none⟩ = some (.int .i64 t401) := (blk_cell BK405.out 0).trans rfl; have hcz49_1 : w47.cell? ⟨gb405, 1, none⟩ = some (.int .i64 t402) := (blk_cell BK405.out 1).trans rfl; have hfz49_0 := blk_frozen BK405.out 0; have hfz49_1 := blk_frozen BK405.out 1) | ((with_reducible refine gate_callee (f := 31) rfl ?_); refine goesL_ (some 162) rfl rfl Try.func31 (by kernel_rfl) rfl #[.int .i64 t398, .agg #[.int .i64 t399, .int .i64 t400], .agg #[.int .i64 t401, .int .i64 t402], .int .i64 t403] rfl (by (try simp only [List.map_toArray, List.map_cons, List.map_nil]); first | done | rfl | (simp only [List.length_drop, List.length_take]; rfl)) ?_; (with_reducible refine (spec_LeadBetween.calls k t398 t399 t400 t401 t402 t403 t434 t435 _ A15.out).mono ?_); rintro e w50 ⟨rfl, hb⟩; refine ⟨_, rfl, ?_⟩; have n0_ := Aside0.mk (Kd.R_below (by (with_reducible repeat (first | apply Kd.R_alloc | apply Kd.R_drewN | apply Kd.R_drew)); exact HO408.out) hb); have n1_ := Aside0.mk (Kd.R_below (by (with_reducible repeat (first | apply Kd.R_alloc | apply Kd.R_drewN | apply Kd.R_drew)); exact HO412.out) hb); have n2_ := Aside0.mk (Kd.R_below (by (with_reducible repeat (first | apply Kd.R_alloc | apply Kd.R_drewN | apply Kd.R_drew)); exact HO426.out) hb); have n3_ := Aside0.mk (Kd.R_below (by (with_reducible repeat (first | apply Kd.R_alloc | apply Kd.R_drewN | apply Kd.R_drew)); exact HO430.out) hb); have n4_ := Aside0.mk (blk_below (g := gb404) (o := .cells #[.int .i64 t399, .int .i64 t400] 45 (0, 0)) bk_ hb); have n5_ := Aside0.mk (blk_below (g := gb405) (o := .cells #[.int .i64 t401, .int .i64 t402] 45 (0, 0)) bk_ hb); have n6_ := Aside0.mk (below_step bw_ hb); clear HO408; clear HO412; clear HO426; clear HO430; clear BK404; clear BK405; clear HB; have HO408 := n0_; have HO412 := n1_; have HO426 := n2_; have HO430 := n3_; have BK404 := n4_; have BK405 := n5_; have HB := n6_; clear n0_ n1_ n2_ n3_ n4_ n5_ n6_; (try clear hb); (try clear hb2); (try clear hk); (try clear hi)))
  (try simp only [Act.put, List.setIfInBounds_toArray, List.set_cons_zero, List.set_cons_succ])
  go_cut [238] from 165 to 238 (fun v238 wc => ∃ (kq : Nat) (x238_15 : Bool), v238 = .bool x238_15 ∧ Aside0 (laws_FnRunnersMeet.j0 kq l1 t398 t403 t406 t409 t414 t418 t419 t420 t424 t427 t432 t433 x238_15 t399 t400 t401 t402 = some r) ∧ Aside0 (kq ≤ k) ∧ Aside0 (Kd.R (Kd.int .i64) 3 wc w.heap.size (fun k_ => some k_ ≠ (v425 : Value).ownBlock) v407 t406) ∧ Aside0 (Kd.R (Kd.int .i64) 3 wc w.heap.size (fun k_ => some k_ ≠ (v407 : Value).ownBlock) v425 t424) ∧ Aside0 (wc.heap[gb404]? = some (.cells #[.int .i64 t399, .int .i64 t400] 45 (0, 0))) ∧ Aside0 (wc.heap[gb405]? = some (.cells #[.int .i64 t401, .int .i64 t402] 45 (0, 0))) ∧ Aside0 (Below w.heap.size w wc))
  case first => as_aux_lemma =>
   have H := HC16.out
   clear HC16
   by_cases c51 : (t409 != t413) = true
   ·
    rw [if_pos c51] at H
    have c51b0 : (t409 != t413) = true := c51
    (try (have c51b1 : decide (t409 = t413) = false := by simpa using c51))
    (try (have c51b2 : (t409 == t413) = false := by simpa using c51))
    (try (have c51b3 : ¬ (t409 = t413) := by simpa using c51))
    clear c51
    (first | rw [c51b0] | (simp only [i64_w, i32_w]; rw [c51b0]) | skip)
    exact absurd (H.trans (congrArg some HRT.out)) (by cases k <;> simp [laws_FnRunnersMeet.j0])
   ·
    rw [if_neg c51] at H
    have c51b0 : (t409 != t413) = false := by simpa using c51
    (try (have c51b1 : decide (t409 = t413) = true := by simpa using c51))
    (try (have c51b2 : (t409 == t413) = true := by simpa using c51))
    clear c51
    (first | rw [c51b0] | (simp only [i64_w, i32_w]; rw [c51b0]) | skip)
    replace H := Option.bind_eq_some_iff.mp H
    obtain ⟨t436, A520, H⟩ := H
    (try dsimp only at H)
    have A52 := Aside0.mk A520
    clear A520
    by_cases c53 : t436 = true
    ·
     subst c53
     rw [if_pos rfl] at H
     by_cases c54 : (t415 != t417) = true
     ·
      rw [if_pos c54] at H
      have c54b0 : (t415 != t417) = true := c54
      (try (have c54b1 : decide (t415 = t417) = false := by simpa using c54))
      (try (have c54b2 : (t415 == t417) = false := by simpa using c54))
      (try (have c54b3 : ¬ (t415 = t417) := by simpa using c54))
      clear c54
      exact absurd (H.trans (congrArg some HRT.out)) (by cases k <;> simp [laws_FnRunnersMeet.j0])
     ·
      rw [if_neg c54] at H
      have c54b0 : (t415 != t417) = false := by simpa using c54
      (try (have c54b1 : decide (t415 = t417) = true := by simpa using c54))
      (try (have c54b2 : (t415 == t417) = true := by simpa using c54))
      clear c54
      by_cases c55 : t414 = t416
      ·
       rw [if_pos c55] at H
       have c55b0 : (t414 == t416) = true := beq_iff_eq.mpr c55
       have c55b1 : (t414 != t416) = false := bne_eq_false_iff_eq.mpr c55
       clear c55
       by_cases c56 : (t420 != t423) = true
       ·
        rw [if_pos c56] at H
        have c56b0 : (t420 != t423) = true := c56
        (try (have c56b1 : decide (t420 = t423) = false := by simpa using c56))
        (try (have c56b2 : (t420 == t423) = false := by simpa using c56))
        (try (have c56b3 : ¬ (t420 = t423) := by simpa using c56))
        clear c56
        exact absurd (H.trans (congrArg some HRT.out)) (by cases k <;> simp [laws_FnRunnersMeet.j0])
       ·
        rw [if_neg c56] at H
        have c56b0 : (t420 != t423) = false := by simpa using c56
        (try (have c56b1 : decide (t420 = t423) = true := by simpa using c56))
        (try (have c56b2 : (t420 == t423) = true := by simpa using c56))
        clear c56
        by_cases c57 : t418 = t421
        ·
         rw [if_pos c57] at H
         have c57b0 : (t418 == t421) = true := beq_iff_eq.mpr c57
         have c57b1 : (t418 != t421) = false := bne_eq_false_iff_eq.mpr c57
         clear c57
         by_cases c58 : t419 = t422
         ·
          rw [if_pos c58] at H
          have c58b0 : (t419 == t422) = true := beq_iff_eq.mpr c58
          have c58b1 : (t419 != t422) = false := bne_eq_false_iff_eq.mpr c58
          clear c58
          by_cases c59 : (t427 != t431) = true
          ·
           rw [if_pos c59] at H
           have c59b0 : (t427 != t431) = true := c59
           (try (have c59b1 : decide (t427 = t431) = false := by simpa using c59))
           (try (have c59b2 : (t427 == t431) = false := by simpa using c59))
           (try (have c59b3 : ¬ (t427 = t431) := by simpa using c59))
           clear c59
           exact absurd (H.trans (congrArg some HRT.out)) (by cases k <;> simp [laws_FnRunnersMeet.j0])
          ·
           rw [if_neg c59] at H
           have c59b0 : (t427 != t431) = false := by simpa using c59
           (try (have c59b1 : decide (t427 = t431) = true := by simpa using c59))
           (try (have c59b2 : (t427 == t431) = true := by simpa using c59))
           clear c59
           replace H := Option.bind_eq_some_iff.mp H
           obtain ⟨t437, A600, H⟩ := H
           (try dsimp only at H)
           have A60 := Aside0.mk A600
           clear A600
           by_cases c61 : t437 = true
           ·
            subst c61
            rw [if_pos rfl] at H
            by_cases c62 : (t433 != t435) = true
            ·
             rw [if_pos c62] at H
             have c62b0 : (t433 != t435) = true := c62
             (try (have c62b1 : decide (t433 = t435) = false := by simpa using c62))
             (try (have c62b2 : (t433 == t435) = false := by simpa using c62))
             (try (have c62b3 : ¬ (t433 = t435) := by simpa using c62))
             clear c62
             exact absurd (H.trans (congrArg some HRT.out)) (by cases k <;> simp [laws_FnRunnersMeet.j0])
            ·
             rw [if_neg c62] at H
             have c62b0 : (t433 != t435) = false := by simpa using c62
             (try (have c62b1 : decide (t433 = t435) = true := by simpa using c62))
             (try (have c62b2 : (t433 == t435) = true := by simpa using c62))
             clear c62
             by_cases c63 : t432 = t434
             ·
              rw [if_pos c63] at H
              have c63b0 : (t432 == t434) = true := beq_iff_eq.mpr c63
              have c63b1 : (t432 != t434) = false := bne_eq_false_iff_eq.mpr c63
              clear c63
              by_cases c64 : (t415 != t433) = true
              ·
               rw [if_pos c64] at H
               have c64b0 : (t415 != t433) = true := c64
               (try (have c64b1 : decide (t415 = t433) = false := by simpa using c64))
               (try (have c64b2 : (t415 == t433) = false := by simpa using c64))
               (try (have c64b3 : ¬ (t415 = t433) := by simpa using c64))
               clear c64
               exact absurd (H.trans (congrArg some HRT.out)) (by cases k <;> simp [laws_FnRunnersMeet.j0])
              ·
               rw [if_neg c64] at H
               have c64b0 : (t415 != t433) = false := by simpa using c64
               (try (have c64b1 : decide (t415 = t433) = true := by simpa using c64))
               (try (have c64b2 : (t415 == t433) = true := by simpa using c64))
               clear c64
               by_cases c65 : t409 = true
               ·
                subst c65
                rw [if_pos rfl] at H
                by_cases c66 : t415 = true
                ·
                 subst c66
                 rw [if_pos rfl] at H
                 by_cases c67 : t420 = true
                 ·
                  subst c67
                  rw [if_pos rfl] at H
                  have H' := Aside0.mk H
                  clear H
                  obtain ⟨Ao68, co68, eo68⟩ := Kd.R_slice HO408.out
                  subst eo68
                  obtain ⟨Ao69, co69, eo69⟩ := Kd.R_slice HO412.out
                  subst eo69
                  go_wp2_with (first | (go_at_call 32; (with_reducible refine (laws_qSame.calls k _ _ t406 _ _ t410 true _ ?side1 ?side2 ?side3 ?side4 A52.out).mono ?_); (case side1 => repeat (first | exact (Kd.R_reads' HO408.out).2.2 | (with_reducible refine Kd.C_alloc ?_ _) | (with_reducible refine Kd.C_drewN ?_ _) | (with_reducible refine Kd.C_drew ?_))); (case side2 => exact (Kd.R_reads' HO408.out).2.1); (case side3 => repeat (first | exact (Kd.R_reads' HO412.out).2.2 | (with_reducible refine Kd.C_alloc ?_ _) | (with_reducible refine Kd.C_drewN ?_ _) | (with_reducible refine Kd.C_drew ?_))); (case side4 => exact (Kd.R_reads' HO412.out).2.1); rintro e w' ⟨rfl, ⟨nd, rfl⟩⟩; obtain ⟨Ao70, co70, eo70⟩ := Kd.R_slice HO426.out; subst eo70; obtain ⟨Ao71, co71, eo71⟩ := Kd.R_slice HO430.out; subst eo71) | (go_at_call 32; (with_reducible refine (laws_qSame.calls k _ _ t424 _ _ t428 true _ ?side1 ?side2 ?side3 ?side4 A60.out).mono ?_); (case side1 => repeat (first | exact (Kd.R_reads' HO426.out).2.2 | (with_reducible refine Kd.C_alloc ?_ _) | (with_reducible refine Kd.C_drewN ?_ _) | (with_reducible refine Kd.C_drew ?_))); (case side2 => exact (Kd.R_reads' HO426.out).2.1); (case side3 => repeat (first | exact (Kd.R_reads' HO430.out).2.2 | (with_reducible refine Kd.C_alloc ?_ _) | (with_reducible refine Kd.C_drewN ?_ _) | (with_reducible refine Kd.C_drew ?_))); (case side4 => exact (Kd.R_reads' HO430.out).2.1); rintro e w' ⟨rfl, ⟨nd, rfl⟩⟩))
                  go_meet
                  case rel => exact ⟨_, (!t427), (by first | rfl | (simp; done) | (simp [*]; done)), H', ⟨by first | omega | exact Nat.le_refl _⟩, ⟨by (with_reducible repeat (first | apply Kd.R_alloc | apply Kd.R_drewN | apply Kd.R_drew)); exact Kd.R_mono HO408.out (fun _ hk => hk.1.2)⟩, ⟨by (with_reducible repeat (first | apply Kd.R_alloc | apply Kd.R_drewN | apply Kd.R_drew)); exact Kd.R_mono HO426.out (fun _ hk => hk.1.1.2)⟩, ⟨bk_⟩, ⟨bk_⟩, ⟨bw_⟩⟩
                 ·
                  replace c67 := Bool.eq_false_iff.mpr c67
                  subst c67
                  rw [if_neg (show ¬ (false = true) by decide)] at H
                  have H' := Aside0.mk H
                  clear H
                  obtain ⟨Ao72, co72, eo72⟩ := Kd.R_slice HO408.out
                  subst eo72
                  obtain ⟨Ao73, co73, eo73⟩ := Kd.R_slice HO412.out
                  subst eo73
                  go_wp2_with (first | (go_at_call 32; (with_reducible refine (laws_qSame.calls k _ _ t406 _ _ t410 true _ ?side1 ?side2 ?side3 ?side4 A52.out).mono ?_); (case side1 => repeat (first | exact (Kd.R_reads' HO408.out).2.2 | (with_reducible refine Kd.C_alloc ?_ _) | (with_reducible refine Kd.C_drewN ?_ _) | (with_reducible refine Kd.C_drew ?_))); (case side2 => exact (Kd.R_reads' HO408.out).2.1); (case side3 => repeat (first | exact (Kd.R_reads' HO412.out).2.2 | (with_reducible refine Kd.C_alloc ?_ _) | (with_reducible refine Kd.C_drewN ?_ _) | (with_reducible refine Kd.C_drew ?_))); (case side4 => exact (Kd.R_reads' HO412.out).2.1); rintro e w' ⟨rfl, ⟨nd, rfl⟩⟩; obtain ⟨Ao74, co74, eo74⟩ := Kd.R_slice HO426.out; subst eo74; obtain ⟨Ao75, co75, eo75⟩ := Kd.R_slice HO430.out; subst eo75) | (go_at_call 32; (with_reducible refine (laws_qSame.calls k _ _ t424 _ _ t428 true _ ?side1 ?side2 ?side3 ?side4 A60.out).mono ?_); (case side1 => repeat (first | exact (Kd.R_reads' HO426.out).2.2 | (with_reducible refine Kd.C_alloc ?_ _) | (with_reducible refine Kd.C_drewN ?_ _) | (with_reducible refine Kd.C_drew ?_))); (case side2 => exact (Kd.R_reads' HO426.out).2.1); (case side3 => repeat (first | exact (Kd.R_reads' HO430.out).2.2 | (with_reducible refine Kd.C_alloc ?_ _) | (with_reducible refine Kd.C_drewN ?_ _) | (with_reducible refine Kd.C_drew ?_))); (case side4 => exact (Kd.R_reads' HO430.out).2.1); rintro e w' ⟨rfl, ⟨nd, rfl⟩⟩))
                  go_meet
                  case rel => exact ⟨_, (false), (by first | rfl | (simp; done) | (simp [*]; done)), H', ⟨by first | omega | exact Nat.le_refl _⟩, ⟨by (with_reducible repeat (first | apply Kd.R_alloc | apply Kd.R_drewN | apply Kd.R_drew)); exact Kd.R_mono HO408.out (fun _ hk => hk.1.2)⟩, ⟨by (with_reducible repeat (first | apply Kd.R_alloc | apply Kd.R_drewN | apply Kd.R_drew)); exact Kd.R_mono HO426.out (fun _ hk => hk.1.1.2)⟩, ⟨bk_⟩, ⟨bk_⟩, ⟨bw_⟩⟩
                ·
                 replace c66 := Bool.eq_false_iff.mpr c66
                 subst c66
                 rw [if_neg (show ¬ (false = true) by decide)] at H
                 exact absurd (H.trans (congrArg some HRT.out)) (by cases k <;> simp [laws_FnRunnersMeet.j0])
               ·
                replace c65 := Bool.eq_false_iff.mpr c65
                subst c65
                rw [if_neg (show ¬ (false = true) by decide)] at H
                by_cases c76 : t420 = true
                ·
                 subst c76
                 rw [if_pos rfl] at H
                 have H' := Aside0.mk H
                 clear H
                 obtain ⟨Ao77, co77, eo77⟩ := Kd.R_slice HO408.out
                 subst eo77
                 obtain ⟨Ao78, co78, eo78⟩ := Kd.R_slice HO412.out
                 subst eo78
                 go_wp2_with (first | (go_at_call 32; (with_reducible refine (laws_qSame.calls k _ _ t406 _ _ t410 true _ ?side1 ?side2 ?side3 ?side4 A52.out).mono ?_); (case side1 => repeat (first | exact (Kd.R_reads' HO408.out).2.2 | (with_reducible refine Kd.C_alloc ?_ _) | (with_reducible refine Kd.C_drewN ?_ _) | (with_reducible refine Kd.C_drew ?_))); (case side2 => exact (Kd.R_reads' HO408.out).2.1); (case side3 => repeat (first | exact (Kd.R_reads' HO412.out).2.2 | (with_reducible refine Kd.C_alloc ?_ _) | (with_reducible refine Kd.C_drewN ?_ _) | (with_reducible refine Kd.C_drew ?_))); (case side4 => exact (Kd.R_reads' HO412.out).2.1); rintro e w' ⟨rfl, ⟨nd, rfl⟩⟩; obtain ⟨Ao79, co79, eo79⟩ := Kd.R_slice HO426.out; subst eo79; obtain ⟨Ao80, co80, eo80⟩ := Kd.R_slice HO430.out; subst eo80) | (go_at_call 32; (with_reducible refine (laws_qSame.calls k _ _ t424 _ _ t428 true _ ?side1 ?side2 ?side3 ?side4 A60.out).mono ?_); (case side1 => repeat (first | exact (Kd.R_reads' HO426.out).2.2 | (with_reducible refine Kd.C_alloc ?_ _) | (with_reducible refine Kd.C_drewN ?_ _) | (with_reducible refine Kd.C_drew ?_))); (case side2 => exact (Kd.R_reads' HO426.out).2.1); (case side3 => repeat (first | exact (Kd.R_reads' HO430.out).2.2 | (with_reducible refine Kd.C_alloc ?_ _) | (with_reducible refine Kd.C_drewN ?_ _) | (with_reducible refine Kd.C_drew ?_))); (case side4 => exact (Kd.R_reads' HO430.out).2.1); rintro e w' ⟨rfl, ⟨nd, rfl⟩⟩))
                 go_meet
                 case rel => exact ⟨_, (!t427), (by first | rfl | (simp; done) | (simp [*]; done)), H', ⟨by first | omega | exact Nat.le_refl _⟩, ⟨by (with_reducible repeat (first | apply Kd.R_alloc | apply Kd.R_drewN | apply Kd.R_drew)); exact Kd.R_mono HO408.out (fun _ hk => hk.1.2)⟩, ⟨by (with_reducible repeat (first | apply Kd.R_alloc | apply Kd.R_drewN | apply Kd.R_drew)); exact Kd.R_mono HO426.out (fun _ hk => hk.1.1.2)⟩, ⟨bk_⟩, ⟨bk_⟩, ⟨bw_⟩⟩
                ·
                 replace c76 := Bool.eq_false_iff.mpr c76
                 subst c76
                 rw [if_neg (show ¬ (false = true) by decide)] at H
                 have H' := Aside0.mk H
                 clear H
                 obtain ⟨Ao81, co81, eo81⟩ := Kd.R_slice HO408.out
                 subst eo81
                 obtain ⟨Ao82, co82, eo82⟩ := Kd.R_slice HO412.out
                 subst eo82
                 go_wp2_with (first | (go_at_call 32; (with_reducible refine (laws_qSame.calls k _ _ t406 _ _ t410 true _ ?side1 ?side2 ?side3 ?side4 A52.out).mono ?_); (case side1 => repeat (first | exact (Kd.R_reads' HO408.out).2.2 | (with_reducible refine Kd.C_alloc ?_ _) | (with_reducible refine Kd.C_drewN ?_ _) | (with_reducible refine Kd.C_drew ?_))); (case side2 => exact (Kd.R_reads' HO408.out).2.1); (case side3 => repeat (first | exact (Kd.R_reads' HO412.out).2.2 | (with_reducible refine Kd.C_alloc ?_ _) | (with_reducible refine Kd.C_drewN ?_ _) | (with_reducible refine Kd.C_drew ?_))); (case side4 => exact (Kd.R_reads' HO412.out).2.1); rintro e w' ⟨rfl, ⟨nd, rfl⟩⟩; obtain ⟨Ao83, co83, eo83⟩ := Kd.R_slice HO426.out; subst eo83; obtain ⟨Ao84, co84, eo84⟩ := Kd.R_slice HO430.out; subst eo84) | (go_at_call 32; (with_reducible refine (laws_qSame.calls k _ _ t424 _ _ t428 true _ ?side1 ?side2 ?side3 ?side4 A60.out).mono ?_); (case side1 => repeat (first | exact (Kd.R_reads' HO426.out).2.2 | (with_reducible refine Kd.C_alloc ?_ _) | (with_reducible refine Kd.C_drewN ?_ _) | (with_reducible refine Kd.C_drew ?_))); (case side2 => exact (Kd.R_reads' HO426.out).2.1); (case side3 => repeat (first | exact (Kd.R_reads' HO430.out).2.2 | (with_reducible refine Kd.C_alloc ?_ _) | (with_reducible refine Kd.C_drewN ?_ _) | (with_reducible refine Kd.C_drew ?_))); (case side4 => exact (Kd.R_reads' HO430.out).2.1); rintro e w' ⟨rfl, ⟨nd, rfl⟩⟩))
                 go_meet
                 case rel => exact ⟨_, (false), (by first | rfl | (simp; done) | (simp [*]; done)), H', ⟨by first | omega | exact Nat.le_refl _⟩, ⟨by (with_reducible repeat (first | apply Kd.R_alloc | apply Kd.R_drewN | apply Kd.R_drew)); exact Kd.R_mono HO408.out (fun _ hk => hk.1.2)⟩, ⟨by (with_reducible repeat (first | apply Kd.R_alloc | apply Kd.R_drewN | apply Kd.R_drew)); exact Kd.R_mono HO426.out (fun _ hk => hk.1.1.2)⟩, ⟨bk_⟩, ⟨bk_⟩, ⟨bw_⟩⟩
             ·
              rw [if_neg c63] at H
              have c63b0 : (t432 == t434) = false := beq_eq_false_iff_ne.mpr c63
              have c63b1 : (t432 != t434) = true := bne_iff_ne.mpr c63
              exact absurd (H.trans (congrArg some HRT.out)) (by cases k <;> simp [laws_FnRunnersMeet.j0])
           ·
            replace c61 := Bool.eq_false_iff.mpr c61
            subst c61
            rw [if_neg (show ¬ (false = true) by decide)] at H
            exact absurd (H.trans (congrArg some HRT.out)) (by cases k <;> simp [laws_FnRunnersMeet.j0])
         ·
          rw [if_neg c58] at H
          have c58b0 : (t419 == t422) = false := beq_eq_false_iff_ne.mpr c58
          have c58b1 : (t419 != t422) = true := bne_iff_ne.mpr c58
          exact absurd (H.trans (congrArg some HRT.out)) (by cases k <;> simp [laws_FnRunnersMeet.j0])
        ·
         rw [if_neg c57] at H
         have c57b0 : (t418 == t421) = false := beq_eq_false_iff_ne.mpr c57
         have c57b1 : (t418 != t421) = true := bne_iff_ne.mpr c57
         exact absurd (H.trans (congrArg some HRT.out)) (by cases k <;> simp [laws_FnRunnersMeet.j0])
      ·
       rw [if_neg c55] at H
       have c55b0 : (t414 == t416) = false := beq_eq_false_iff_ne.mpr c55
       have c55b1 : (t414 != t416) = true := bne_iff_ne.mpr c55
       exact absurd (H.trans (congrArg some HRT.out)) (by cases k <;> simp [laws_FnRunnersMeet.j0])
    ·
     replace c53 := Bool.eq_false_iff.mpr c53
     subst c53
     rw [if_neg (show ¬ (false = true) by decide)] at H
     exact absurd (H.trans (congrArg some HRT.out)) (by cases k <;> simp [laws_FnRunnersMeet.j0])
  case rest => as_aux_lemma =>
   clear HC16
   (try clear c1); (try clear c4); (try clear hcz21_0); (try clear hcz21_1); (try clear hcz22_0); (try clear hcz22_1); (try clear hcz24_0); (try clear hcz24_1); (try clear hcz25_0); (try clear hcz25_1); (try clear hcz27_0); (try clear hcz27_1); (try clear hcz28_0); (try clear hcz28_1); (try clear hcz30_0); (try clear hcz30_1); (try clear hcz31_0); (try clear hcz31_1); (try clear hcz33_0); (try clear hcz33_1); (try clear hcz34_0); (try clear hcz34_1); (try clear hcz36_0); (try clear hcz36_1); (try clear hcz37_0); (try clear hcz37_1); (try clear hcz39_0); (try clear hcz39_1); (try clear hcz40_0); (try clear hcz40_1); (try clear hcz42_0); (try clear hcz42_1); (try clear hcz43_0); (try clear hcz43_1); (try clear hcz45_0); (try clear hcz45_1); (try clear hcz46_0); (try clear hcz46_1); (try clear hcz48_0); (try clear hcz48_1); (try clear hcz49_0); (try clear hcz49_1); (try clear hfz21_0); (try clear hfz21_1); (try clear hfz22_0); (try clear hfz22_1); (try clear hfz24_0); (try clear hfz24_1); (try clear hfz25_0); (try clear hfz25_1); (try clear hfz27_0); (try clear hfz27_1); (try clear hfz28_0); (try clear hfz28_1); (try clear hfz30_0); (try clear hfz30_1); (try clear hfz31_0); (try clear hfz31_1); (try clear hfz33_0); (try clear hfz33_1); (try clear hfz34_0); (try clear hfz34_1); (try clear hfz36_0); (try clear hfz36_1); (try clear hfz37_0); (try clear hfz37_1); (try clear hfz39_0); (try clear hfz39_1); (try clear hfz40_0); (try clear hfz40_1); (try clear hfz42_0); (try clear hfz42_1); (try clear hfz43_0); (try clear hfz43_1); (try clear hfz45_0); (try clear hfz45_1); (try clear hfz46_0); (try clear hfz46_1); (try clear hfz48_0); (try clear hfz48_1); (try clear hfz49_0); (try clear hfz49_1)
   obtain ⟨kq, x238_15, rfl, HA, HJ15, HO_9, HO_23, BK404, BK405, HB⟩ := hcut
   cases kq with
   | zero => exact absurd HA.out (by simp [laws_FnRunnersMeet.j0])
   | succ kj15 =>
    have H := HA.out
    clear HA
    simp only [laws_FnRunnersMeet.j0] at H
    by_cases c85 : x238_15 = true
    ·
     subst c85
     rw [if_pos rfl] at H
     exact absurd ((Option.some.inj H).trans HRT.out) (by decide)
    ·
     replace c85 := Bool.eq_false_iff.mpr c85
     subst c85
     rw [if_neg (show ¬ (false = true) by decide)] at H
     have HC86 := Aside0.mk H
     clear H
     go_upto_if 239 with (fail)
     go_cut [] from 240 to 318 (fun wc => ∃ (kq : Nat), Aside0 (laws_FnRunnersMeet.j3 kq l1 t398 t403 t414 t419 t420 t424 t427 t432 t433 t399 t400 t401 t402 = some r) ∧ Aside0 (kq ≤ kj15) ∧ Aside0 (Kd.R (Kd.int .i64) 3 wc w.heap.size (fun _ => True) v425 t424) ∧ Aside0 (wc.heap[gb404]? = some (.cells #[.int .i64 t399, .int .i64 t400] 45 (0, 0))) ∧ Aside0 (wc.heap[gb405]? = some (.cells #[.int .i64 t401, .int .i64 t402] 45 (0, 0))) ∧ Aside0 (Below w.heap.size w wc))
     case first => as_aux_lemma =>
      have H := HC86.out
      clear HC86
      by_cases c87 : t409 = true
      ·
       subst c87
       rw [if_pos rfl] at H
       have HC88 := Aside0.mk H
       clear H
       go_upto_region 17 with (fail)
       go_cut [271] from 240 to 271 (fun v271 wc => ∃ (kq : Nat) (x271_87 : Bool), v271 = .bool x271_87 ∧ Aside0 (laws_FnRunnersMeet.j1 kq l1 t398 t403 t406 t414 t419 t420 t424 t427 t432 t433 x271_87 t399 t400 t401 t402 = some r) ∧ Aside0 (kq ≤ kj15) ∧ Aside0 (Kd.R (Kd.int .i64) 3 wc w.heap.size (fun k_ => some k_ ≠ (v425 : Value).ownBlock) v407 t406) ∧ Aside0 (Kd.R (Kd.int .i64) 3 wc w.heap.size (fun k_ => some k_ ≠ (v407 : Value).ownBlock) v425 t424) ∧ Aside0 (wc.heap[gb404]? = some (.cells #[.int .i64 t399, .int .i64 t400] 45 (0, 0))) ∧ Aside0 (wc.heap[gb405]? = some (.cells #[.int .i64 t401, .int .i64 t402] 45 (0, 0))) ∧ Aside0 (Below w.heap.size w wc))
       case first => as_aux_lemma =>
        have H := HC88.out
        clear HC88
        replace H := Option.bind_eq_some_iff.mp H
        obtain ⟨t438, A890, H⟩ := H
        (try dsimp only at H)
        have A89 := Aside0.mk A890
        clear A890
        by_cases c90 : t438 = true
        ·
         subst c90
         rw [if_pos rfl] at H
         by_cases c91 : (t406.length : Int) > 0
         ·
          rw [if_pos c91] at H
          have c91b0 : decide (0 < (t406.length : Int)) = true := decide_eq_true c91
          have c91b1 : decide (0 < t406.length) = true := decide_eq_true (by omega)
          clear c91
          (first | rw [c91b0] | (simp only [i64_w, i32_w]; rw [c91b0]) | skip)
          by_cases c92 : t420 = true
          ·
           subst c92
           rw [if_pos rfl] at H
           by_cases c93 : 0 < (t406.length : Int)
           ·
            rw [if_pos c93] at H
            have c93b0 : decide (0 < (t406.length : Int)) = true := decide_eq_true c93
            have c93b1 : decide (0 < t406.length) = true := decide_eq_true (by omega)
            clear c93
            by_cases c94 : (rd t406 0) = t418
            ·
             rw [if_pos c94] at H
             have c94b0 : ((rd t406 0) == t418) = true := beq_iff_eq.mpr c94
             have c94b1 : ((rd t406 0) != t418) = false := bne_eq_false_iff_eq.mpr c94
             clear c94
             by_cases c95 : t418 ≤ t403
             ·
              rw [if_pos c95] at H
              have c95b0 : decide (t418 ≤ t403) = true := decide_eq_true c95
              clear c95
              have H' := Aside0.mk H
              clear H
              obtain ⟨Ao96, co96, eo96⟩ := Kd.R_slice HO_9.out
              subst eo96
              go_wp2_with (first | ((with_reducible refine gate_callee (f := 33) rfl ?_); refine goesL_ (some 241) rfl rfl Try.func33 (by kernel_rfl) rfl #[.slice Ao96 t406.length co96] rfl (by (try simp only [List.map_toArray, List.map_cons, List.map_nil]); first | done | rfl | (simp only [List.length_drop, List.length_take]; rfl)) ?_; (with_reducible refine (laws_qRises.calls kj15 _ _ t406 true _ ?side1 ?side2 A89.out).mono ?_); (case side1 => repeat (first | exact (Kd.R_reads' HO_9.out).2.2 | (with_reducible refine Kd.C_alloc ?_ _) | (with_reducible refine Kd.C_drewN ?_ _) | (with_reducible refine Kd.C_drew ?_))); (case side2 => exact (Kd.R_reads' HO_9.out).2.1); rintro e w' ⟨rfl, ⟨nd, rfl⟩⟩; refine ⟨_, rfl, ?_⟩; have p439 : 0 ≤ (0 : Int) := (by omega); have q439 : 0 < (t406.length : Int) := of_decide_eq_true (by first | (with_reducible assumption) | assumption); obtain ⟨ad439, e439, hx439_0⟩ := Kd.at_int (Kd.R_reads' HO_9.out).2.2 0 p439 q439; cases e439; have qi439 : (0 < t406.length) = True := eq_true (by omega); (try rw [show ((0 : Int)).toNat = 0 from rfl] at hx439_0); (try rw [Addr.add_zero'] at hx439_0); replace p439 := eq_true p439; replace q439 := eq_true q439))
              go_meet
              case rel => exact ⟨_, (((t406.length : Int) == 0)), (by first | rfl | (simp; done) | (simp [*]; done)), H', ⟨by have := HJ15.out; first | omega | exact Nat.le_refl _⟩, ⟨by (with_reducible repeat (first | apply Kd.R_alloc | apply Kd.R_drewN | apply Kd.R_drew)); exact HO_9.out⟩, ⟨by (with_reducible repeat (first | apply Kd.R_alloc | apply Kd.R_drewN | apply Kd.R_drew)); exact HO_23.out⟩, ⟨bk_⟩, ⟨bk_⟩, ⟨bw_⟩⟩
             ·
              rw [if_neg c95] at H
              have c95b0 : decide (t418 ≤ t403) = false := decide_eq_false c95
              clear c95
              have H' := Aside0.mk H
              clear H
              obtain ⟨Ao97, co97, eo97⟩ := Kd.R_slice HO_9.out
              subst eo97
              go_wp2_with (first | ((with_reducible refine gate_callee (f := 33) rfl ?_); refine goesL_ (some 241) rfl rfl Try.func33 (by kernel_rfl) rfl #[.slice Ao97 t406.length co97] rfl (by (try simp only [List.map_toArray, List.map_cons, List.map_nil]); first | done | rfl | (simp only [List.length_drop, List.length_take]; rfl)) ?_; (with_reducible refine (laws_qRises.calls kj15 _ _ t406 true _ ?side1 ?side2 A89.out).mono ?_); (case side1 => repeat (first | exact (Kd.R_reads' HO_9.out).2.2 | (with_reducible refine Kd.C_alloc ?_ _) | (with_reducible refine Kd.C_drewN ?_ _) | (with_reducible refine Kd.C_drew ?_))); (case side2 => exact (Kd.R_reads' HO_9.out).2.1); rintro e w' ⟨rfl, ⟨nd, rfl⟩⟩; refine ⟨_, rfl, ?_⟩; have p439 : 0 ≤ (0 : Int) := (by omega); have q439 : 0 < (t406.length : Int) := of_decide_eq_true (by first | (with_reducible assumption) | assumption); obtain ⟨ad439, e439, hx439_0⟩ := Kd.at_int (Kd.R_reads' HO_9.out).2.2 0 p439 q439; cases e439; have qi439 : (0 < t406.length) = True := eq_true (by omega); (try rw [show ((0 : Int)).toNat = 0 from rfl] at hx439_0); (try rw [Addr.add_zero'] at hx439_0); replace p439 := eq_true p439; replace q439 := eq_true q439))
              go_meet
              case rel => exact ⟨_, (false), (by first | rfl | (simp; done) | (simp [*]; done)), H', ⟨by have := HJ15.out; first | omega | exact Nat.le_refl _⟩, ⟨by (with_reducible repeat (first | apply Kd.R_alloc | apply Kd.R_drewN | apply Kd.R_drew)); exact HO_9.out⟩, ⟨by (with_reducible repeat (first | apply Kd.R_alloc | apply Kd.R_drewN | apply Kd.R_drew)); exact HO_23.out⟩, ⟨bk_⟩, ⟨bk_⟩, ⟨bw_⟩⟩
            ·
             rw [if_neg c94] at H
             have c94b0 : ((rd t406 0) == t418) = false := beq_eq_false_iff_ne.mpr c94
             have c94b1 : ((rd t406 0) != t418) = true := bne_iff_ne.mpr c94
             exact absurd (H.trans (congrArg some HRT.out)) (by cases kj15 <;> simp [laws_FnRunnersMeet.j1])
           ·
            rw [if_neg c93] at H
            exact absurd H (by simp)
          ·
           replace c92 := Bool.eq_false_iff.mpr c92
           subst c92
           rw [if_neg (show ¬ (false = true) by decide)] at H
           exact absurd (H.trans (congrArg some HRT.out)) (by cases kj15 <;> simp [laws_FnRunnersMeet.j1])
         ·
          rw [if_neg c91] at H
          have c91b0 : decide (0 < (t406.length : Int)) = false := decide_eq_false c91
          have c91b1 : decide (0 < t406.length) = false := decide_eq_false (by omega)
          clear c91
          (first | rw [c91b0] | (simp only [i64_w, i32_w]; rw [c91b0]) | skip)
          by_cases c98 : t420 = true
          ·
           subst c98
           rw [if_pos rfl] at H
           by_cases c99 : t418 ≤ t403
           ·
            rw [if_pos c99] at H
            have c99b0 : decide (t418 ≤ t403) = true := decide_eq_true c99
            clear c99
            have H' := Aside0.mk H
            clear H
            obtain ⟨Ao100, co100, eo100⟩ := Kd.R_slice HO_9.out
            subst eo100
            go_wp2_with (first | ((with_reducible refine gate_callee (f := 33) rfl ?_); refine goesL_ (some 241) rfl rfl Try.func33 (by kernel_rfl) rfl #[.slice Ao100 t406.length co100] rfl (by (try simp only [List.map_toArray, List.map_cons, List.map_nil]); first | done | rfl | (simp only [List.length_drop, List.length_take]; rfl)) ?_; (with_reducible refine (laws_qRises.calls kj15 _ _ t406 true _ ?side1 ?side2 A89.out).mono ?_); (case side1 => repeat (first | exact (Kd.R_reads' HO_9.out).2.2 | (with_reducible refine Kd.C_alloc ?_ _) | (with_reducible refine Kd.C_drewN ?_ _) | (with_reducible refine Kd.C_drew ?_))); (case side2 => exact (Kd.R_reads' HO_9.out).2.1); rintro e w' ⟨rfl, ⟨nd, rfl⟩⟩; refine ⟨_, rfl, ?_⟩))
            go_meet
            case rel => exact ⟨_, (((t406.length : Int) == 0)), (by first | rfl | (simp; done) | (simp [*]; done)), H', ⟨by have := HJ15.out; first | omega | exact Nat.le_refl _⟩, ⟨by (with_reducible repeat (first | apply Kd.R_alloc | apply Kd.R_drewN | apply Kd.R_drew)); exact HO_9.out⟩, ⟨by (with_reducible repeat (first | apply Kd.R_alloc | apply Kd.R_drewN | apply Kd.R_drew)); exact HO_23.out⟩, ⟨bk_⟩, ⟨bk_⟩, ⟨bw_⟩⟩
           ·
            rw [if_neg c99] at H
            have c99b0 : decide (t418 ≤ t403) = false := decide_eq_false c99
            clear c99
            have H' := Aside0.mk H
            clear H
            obtain ⟨Ao101, co101, eo101⟩ := Kd.R_slice HO_9.out
            subst eo101
            go_wp2_with (first | ((with_reducible refine gate_callee (f := 33) rfl ?_); refine goesL_ (some 241) rfl rfl Try.func33 (by kernel_rfl) rfl #[.slice Ao101 t406.length co101] rfl (by (try simp only [List.map_toArray, List.map_cons, List.map_nil]); first | done | rfl | (simp only [List.length_drop, List.length_take]; rfl)) ?_; (with_reducible refine (laws_qRises.calls kj15 _ _ t406 true _ ?side1 ?side2 A89.out).mono ?_); (case side1 => repeat (first | exact (Kd.R_reads' HO_9.out).2.2 | (with_reducible refine Kd.C_alloc ?_ _) | (with_reducible refine Kd.C_drewN ?_ _) | (with_reducible refine Kd.C_drew ?_))); (case side2 => exact (Kd.R_reads' HO_9.out).2.1); rintro e w' ⟨rfl, ⟨nd, rfl⟩⟩; refine ⟨_, rfl, ?_⟩))
            go_meet
            case rel => exact ⟨_, (false), (by first | rfl | (simp; done) | (simp [*]; done)), H', ⟨by have := HJ15.out; first | omega | exact Nat.le_refl _⟩, ⟨by (with_reducible repeat (first | apply Kd.R_alloc | apply Kd.R_drewN | apply Kd.R_drew)); exact HO_9.out⟩, ⟨by (with_reducible repeat (first | apply Kd.R_alloc | apply Kd.R_drewN | apply Kd.R_drew)); exact HO_23.out⟩, ⟨bk_⟩, ⟨bk_⟩, ⟨bw_⟩⟩
          ·
           replace c98 := Bool.eq_false_iff.mpr c98
           subst c98
           rw [if_neg (show ¬ (false = true) by decide)] at H
           have H' := Aside0.mk H
           clear H
           obtain ⟨Ao102, co102, eo102⟩ := Kd.R_slice HO_9.out
           subst eo102
           go_wp2_with (first | ((with_reducible refine gate_callee (f := 33) rfl ?_); refine goesL_ (some 241) rfl rfl Try.func33 (by kernel_rfl) rfl #[.slice Ao102 t406.length co102] rfl (by (try simp only [List.map_toArray, List.map_cons, List.map_nil]); first | done | rfl | (simp only [List.length_drop, List.length_take]; rfl)) ?_; (with_reducible refine (laws_qRises.calls kj15 _ _ t406 true _ ?side1 ?side2 A89.out).mono ?_); (case side1 => repeat (first | exact (Kd.R_reads' HO_9.out).2.2 | (with_reducible refine Kd.C_alloc ?_ _) | (with_reducible refine Kd.C_drewN ?_ _) | (with_reducible refine Kd.C_drew ?_))); (case side2 => exact (Kd.R_reads' HO_9.out).2.1); rintro e w' ⟨rfl, ⟨nd, rfl⟩⟩; refine ⟨_, rfl, ?_⟩))
           go_meet
           case rel => exact ⟨_, (false), (by first | rfl | (simp; done) | (simp [*]; done)), H', ⟨by have := HJ15.out; first | omega | exact Nat.le_refl _⟩, ⟨by (with_reducible repeat (first | apply Kd.R_alloc | apply Kd.R_drewN | apply Kd.R_drew)); exact HO_9.out⟩, ⟨by (with_reducible repeat (first | apply Kd.R_alloc | apply Kd.R_drewN | apply Kd.R_drew)); exact HO_23.out⟩, ⟨bk_⟩, ⟨bk_⟩, ⟨bw_⟩⟩
        ·
         replace c90 := Bool.eq_false_iff.mpr c90
         subst c90
         rw [if_neg (show ¬ (false = true) by decide)] at H
         exact absurd (H.trans (congrArg some HRT.out)) (by cases kj15 <;> simp [laws_FnRunnersMeet.j1])
       case rest => as_aux_lemma =>
        clear HC88
        (try clear c1); (try clear c4); (try clear c85); (try clear c87); (try clear hcz21_0); (try clear hcz21_1); (try clear hcz22_0); (try clear hcz22_1); (try clear hcz24_0); (try clear hcz24_1); (try clear hcz25_0); (try clear hcz25_1); (try clear hcz27_0); (try clear hcz27_1); (try clear hcz28_0); (try clear hcz28_1); (try clear hcz30_0); (try clear hcz30_1); (try clear hcz31_0); (try clear hcz31_1); (try clear hcz33_0); (try clear hcz33_1); (try clear hcz34_0); (try clear hcz34_1); (try clear hcz36_0); (try clear hcz36_1); (try clear hcz37_0); (try clear hcz37_1); (try clear hcz39_0); (try clear hcz39_1); (try clear hcz40_0); (try clear hcz40_1); (try clear hcz42_0); (try clear hcz42_1); (try clear hcz43_0); (try clear hcz43_1); (try clear hcz45_0); (try clear hcz45_1); (try clear hcz46_0); (try clear hcz46_1); (try clear hcz48_0); (try clear hcz48_1); (try clear hcz49_0); (try clear hcz49_1); (try clear hfz21_0); (try clear hfz21_1); (try clear hfz22_0); (try clear hfz22_1); (try clear hfz24_0); (try clear hfz24_1); (try clear hfz25_0); (try clear hfz25_1); (try clear hfz27_0); (try clear hfz27_1); (try clear hfz28_0); (try clear hfz28_1); (try clear hfz30_0); (try clear hfz30_1); (try clear hfz31_0); (try clear hfz31_1); (try clear hfz33_0); (try clear hfz33_1); (try clear hfz34_0); (try clear hfz34_1); (try clear hfz36_0); (try clear hfz36_1); (try clear hfz37_0); (try clear hfz37_1); (try clear hfz39_0); (try clear hfz39_1); (try clear hfz40_0); (try clear hfz40_1); (try clear hfz42_0); (try clear hfz42_1); (try clear hfz43_0); (try clear hfz43_1); (try clear hfz45_0); (try clear hfz45_1); (try clear hfz46_0); (try clear hfz46_1); (try clear hfz48_0); (try clear hfz48_1); (try clear hfz49_0); (try clear hfz49_1)
        obtain ⟨kq, x271_87, rfl, HA, HJ87, HO_9, HO_23, BK404, BK405, HB⟩ := hcut
        cases kq with
        | zero => exact absurd HA.out (by simp [laws_FnRunnersMeet.j1])
        | succ kj87 =>
         have H := HA.out
         clear HA
         simp only [laws_FnRunnersMeet.j1] at H
         by_cases c103 : x271_87 = true
         ·
          subst c103
          rw [if_pos rfl] at H
          exact absurd ((Option.some.inj H).trans HRT.out) (by decide)
         ·
          replace c103 := Bool.eq_false_iff.mpr c103
          subst c103
          rw [if_neg (show ¬ (false = true) by decide)] at H
          have H' := Aside0.mk H
          clear H
          obtain ⟨Ao104, co104, eo104⟩ := Kd.R_slice HO_9.out
          subst eo104
          go_wp2
          go_loopg [274] kj87 (fun kq v274 w' => ∃ (x274_3 : Int), v274 = .int .i64 x274_3 ∧ Aside0 (laws_FnRunnersMeet.l0 kq l1 t398 t403 t414 t419 t420 t424 t427 t432 t433 t406 (t406.length : Int) x274_3 t399 t400 t401 t402 = some r) ∧ Aside0 (kq ≤ kj87) ∧ Aside0 (Kd.R (Kd.int .i64) 3 w' w.heap.size (fun k_ => some k_ ≠ ((.slice Ao104 t406.length co104) : Value).ownBlock) v425 t424) ∧ Aside0 (Kd.R (Kd.int .i64) 3 w' w.heap.size (fun k_ => some k_ ≠ (v425 : Value).ownBlock) (.slice Ao104 t406.length co104) t406) ∧ Aside0 (w'.heap[gb404]? = some (.cells #[.int .i64 t399, .int .i64 t400] 45 (0, 0))) ∧ Aside0 (w'.heap[gb405]? = some (.cells #[.int .i64 t401, .int .i64 t402] 45 (0, 0))) ∧ Aside0 (Below w.heap.size w w'))
          case atStart => exact ⟨(0), (by first | rfl | (simp; done) | (simp [*]; done)), H', ⟨Nat.le_refl _⟩, ⟨by (with_reducible repeat (first | apply Kd.R_alloc | apply Kd.R_drewN | apply Kd.R_drew)); exact HO_23.out⟩, ⟨by (with_reducible repeat (first | apply Kd.R_alloc | apply Kd.R_drewN | apply Kd.R_drew)); exact HO_9.out⟩, ⟨bk_⟩, ⟨bk_⟩, ⟨bw_⟩⟩
          case round => as_aux_lemma =>
           clear H'
           (try clear c1); (try clear c4); (try clear c85); (try clear c87); (try clear c103); (try clear hcz21_0); (try clear hcz21_1); (try clear hcz22_0); (try clear hcz22_1); (try clear hcz24_0); (try clear hcz24_1); (try clear hcz25_0); (try clear hcz25_1); (try clear hcz27_0); (try clear hcz27_1); (try clear hcz28_0); (try clear hcz28_1); (try clear hcz30_0); (try clear hcz30_1); (try clear hcz31_0); (try clear hcz31_1); (try clear hcz33_0); (try clear hcz33_1); (try clear hcz34_0); (try clear hcz34_1); (try clear hcz36_0); (try clear hcz36_1); (try clear hcz37_0); (try clear hcz37_1); (try clear hcz39_0); (try clear hcz39_1); (try clear hcz40_0); (try clear hcz40_1); (try clear hcz42_0); (try clear hcz42_1); (try clear hcz43_0); (try clear hcz43_1); (try clear hcz45_0); (try clear hcz45_1); (try clear hcz46_0); (try clear hcz46_1); (try clear hcz48_0); (try clear hcz48_1); (try clear hcz49_0); (try clear hcz49_1); (try clear hfz21_0); (try clear hfz21_1); (try clear hfz22_0); (try clear hfz22_1); (try clear hfz24_0); (try clear hfz24_1); (try clear hfz25_0); (try clear hfz25_1); (try clear hfz27_0); (try clear hfz27_1); (try clear hfz28_0); (try clear hfz28_1); (try clear hfz30_0); (try clear hfz30_1); (try clear hfz31_0); (try clear hfz31_1); (try clear hfz33_0); (try clear hfz33_1); (try clear hfz34_0); (try clear hfz34_1); (try clear hfz36_0); (try clear hfz36_1); (try clear hfz37_0); (try clear hfz37_1); (try clear hfz39_0); (try clear hfz39_1); (try clear hfz40_0); (try clear hfz40_1); (try clear hfz42_0); (try clear hfz42_1); (try clear hfz43_0); (try clear hfz43_1); (try clear hfz45_0); (try clear hfz45_1); (try clear hfz46_0); (try clear hfz46_1); (try clear hfz48_0); (try clear hfz48_1); (try clear hfz49_0); (try clear hfz49_1)
           obtain ⟨x274_3, rfl, HA, HK3, HO_23, HO_272, BK404, BK405, HB⟩ := hrel
           cases gk with
           | zero => exact absurd HA.out (by simp [laws_FnRunnersMeet.l0])
           | succ k3 =>
            have H := HA.out
            clear HA
            simp only [laws_FnRunnersMeet.l0] at H
            by_cases c105 : x274_3 < (t406.length : Int)
            ·
             rw [if_pos c105] at H
             have c105b0 : decide (x274_3 < (t406.length : Int)) = true := decide_eq_true c105
             clear c105
             by_cases c106 : 0 ≤ x274_3
             ·
              rw [if_pos c106] at H
              have c106b0 : decide (0 ≤ x274_3) = true := decide_eq_true c106
              clear c106
              by_cases c107 : x274_3 < (t406.length : Int)
              ·
               rw [if_pos c107] at H
               have c107b0 : decide (x274_3 < (t406.length : Int)) = true := decide_eq_true c107
               clear c107
               replace H := Option.bind_eq_some_iff.mp H
               obtain ⟨⟨t441, t442⟩, A1080, H⟩ := H
               (try dsimp only at H)
               have A108 := Aside0.mk A1080
               clear A1080
               replace H := Option.bind_eq_some_iff.mp H
               obtain ⟨⟨t443, t444⟩, A1090, H⟩ := H
               (try dsimp only at H)
               have A109 := Aside0.mk A1090
               clear A1090
               by_cases c110 : t442 = true
               ·
                subst c110
                rw [if_pos rfl] at H
                by_cases c111 : t444 = true
                ·
                 subst c111
                 rw [if_pos rfl] at H
                 by_cases c112 : t441 = t443
                 ·
                  rw [if_pos c112] at H
                  have c112b0 : (t441 == t443) = true := beq_iff_eq.mpr c112
                  have c112b1 : (t441 != t443) = false := bne_eq_false_iff_eq.mpr c112
                  clear c112
                  by_cases c113 : (rd t406 x274_3) < 0
                  ·
                   rw [if_pos c113] at H
                   have c113b0 : decide ((rd t406 x274_3) < 0) = true := decide_eq_true c113
                   clear c113
                   exact absurd ((Option.some.inj H).trans HRT.out) (by decide)
                  ·
                   rw [if_neg c113] at H
                   have c113b0 : decide ((rd t406 x274_3) < 0) = false := decide_eq_false c113
                   clear c113
                   by_cases c114 : (rd t406 x274_3) > t403
                   ·
                    rw [if_pos c114] at H
                    have c114b0 : decide (t403 < (rd t406 x274_3)) = true := decide_eq_true c114
                    clear c114
                    exact absurd ((Option.some.inj H).trans HRT.out) (by decide)
                   ·
                    rw [if_neg c114] at H
                    have c114b0 : decide (t403 < (rd t406 x274_3)) = false := decide_eq_false c114
                    clear c114
                    replace H := Option.bind_eq_some_iff.mp H
                    obtain ⟨t445, A1150, H⟩ := H
                    (try dsimp only at H)
                    have A115 := Aside0.mk A1150
                    clear A1150
                    by_cases c116 : t445 = true
                    ·
                     subst c116
                     rw [if_pos rfl] at H
                     have H' := Aside0.mk H
                     clear H
                     have p440 : 0 ≤ (x274_3 : Int) := of_decide_eq_true (by first | (with_reducible assumption) | assumption)
                     have q440 : x274_3 < (t406.length : Int) := of_decide_eq_true (by first | (with_reducible assumption) | assumption)
                     obtain ⟨ad440, e440, hx440_0⟩ := Kd.at_int (Kd.R_reads' HO_272.out).2.2 x274_3 p440 q440
                     cases e440
                     replace p440 := eq_true p440
                     replace q440 := eq_true q440
                     have hnb117 := NB404_405.out
                     have hnc117 := NB405_404.out
                     have hcz118_0 : wr.cell? ⟨gb404, 0, none⟩ = some (.int .i64 t399) := (blk_cell BK404.out 0).trans rfl
                     have hcz118_1 : wr.cell? ⟨gb404, 1, none⟩ = some (.int .i64 t400) := (blk_cell BK404.out 1).trans rfl
                     have hfz118_0 := blk_frozen BK404.out 0
                     have hfz118_1 := blk_frozen BK404.out 1
                     go_wp2_with (first | ((with_reducible refine gate_callee (f := 34) rfl ?_); refine goesL_ (some 282) rfl rfl Try.func34 (by kernel_rfl) rfl #[.int .i64 t398, .agg #[.int .i64 t399, .int .i64 t400], .int .i64 (rd t406 x274_3)] rfl (by (try simp only [List.map_toArray, List.map_cons, List.map_nil]); first | done | rfl | (simp only [List.length_drop, List.length_take]; rfl)) ?_; (with_reducible refine (impl_PlaceOnTrack.calls t398 t399 t400 (rd t406 x274_3) t441 true _ A108.out).mono ?_); rintro e w119 ⟨rfl, hb⟩; refine ⟨_, rfl, ?_⟩; have n0_ := Aside0.mk (Kd.R_below (by (with_reducible repeat (first | apply Kd.R_alloc | apply Kd.R_drewN | apply Kd.R_drew)); exact HO_23.out) hb); have n1_ := Aside0.mk (Kd.R_below (by (with_reducible repeat (first | apply Kd.R_alloc | apply Kd.R_drewN | apply Kd.R_drew)); exact HO_272.out) hb); have n2_ := Aside0.mk (blk_below (g := gb404) (o := .cells #[.int .i64 t399, .int .i64 t400] 45 (0, 0)) bk_ hb); have n3_ := Aside0.mk (blk_below (g := gb405) (o := .cells #[.int .i64 t401, .int .i64 t402] 45 (0, 0)) bk_ hb); have n4_ := Aside0.mk (below_step bw_ hb); clear HO_23; clear HO_272; clear BK404; clear BK405; clear HB; have HO_23 := n0_; have HO_272 := n1_; have BK404 := n2_; have BK405 := n3_; have HB := n4_; clear n0_ n1_ n2_ n3_ n4_; (try clear hb); (try clear hb2); (try clear hk); (try clear hi); have hcz120_0 : w119.cell? ⟨gb405, 0, none⟩ = some (.int .i64 t401) := (blk_cell BK405.out 0).trans rfl; have hcz120_1 : w119.cell? ⟨gb405, 1, none⟩ = some (.int .i64 t402) := (blk_cell BK405.out 1).trans rfl; have hfz120_0 := blk_frozen BK405.out 0; have hfz120_1 := blk_frozen BK405.out 1) | ((with_reducible refine gate_callee (f := 34) rfl ?_); refine goesL_ (some 289) rfl rfl Try.func34 (by kernel_rfl) rfl #[.int .i64 t398, .agg #[.int .i64 t401, .int .i64 t402], .int .i64 (rd t406 x274_3)] rfl (by (try simp only [List.map_toArray, List.map_cons, List.map_nil]); first | done | rfl | (simp only [List.length_drop, List.length_take]; rfl)) ?_; (with_reducible refine (impl_PlaceOnTrack.calls t398 t401 t402 (rd t406 x274_3) t443 true _ A109.out).mono ?_); rintro e w121 ⟨rfl, hb⟩; refine ⟨_, rfl, ?_⟩; have n0_ := Aside0.mk (Kd.R_below (by (with_reducible repeat (first | apply Kd.R_alloc | apply Kd.R_drewN | apply Kd.R_drew)); exact HO_23.out) hb); have n1_ := Aside0.mk (Kd.R_below (by (with_reducible repeat (first | apply Kd.R_alloc | apply Kd.R_drewN | apply Kd.R_drew)); exact HO_272.out) hb); have n2_ := Aside0.mk (blk_below (g := gb404) (o := .cells #[.int .i64 t399, .int .i64 t400] 45 (0, 0)) bk_ hb); have n3_ := Aside0.mk (blk_below (g := gb405) (o := .cells #[.int .i64 t401, .int .i64 t402] 45 (0, 0)) bk_ hb); have n4_ := Aside0.mk (below_step bw_ hb); clear HO_23; clear HO_272; clear BK404; clear BK405; clear HB; have HO_23 := n0_; have HO_272 := n1_; have BK404 := n2_; have BK405 := n3_; have HB := n4_; clear n0_ n1_ n2_ n3_ n4_; (try clear hb); (try clear hb2); (try clear hk); (try clear hi); obtain ⟨Ao122, co122, eo122⟩ := Kd.R_slice HO_23.out; subst eo122) | (go_at_call 35; (with_reducible refine (laws_qHas.calls k3 _ _ t424 t441 true _ ?side1 ?side2 A115.out).mono ?_); (case side1 => repeat (first | exact (Kd.R_reads' HO_23.out).2.2 | (with_reducible refine Kd.C_alloc ?_ _) | (with_reducible refine Kd.C_drewN ?_ _) | (with_reducible refine Kd.C_drew ?_))); (case side2 => exact (Kd.R_reads' HO_23.out).2.1); rintro e w' ⟨rfl, ⟨nd, rfl⟩⟩))
                     go_roundg k3
                     case measure => have := HJ15.out; have := HJ87.out; have := HK3.out; omega
                     case rel => exact ⟨(wrap64 (x274_3 + 1)), (by first | rfl | (simp; done) | (simp [*]; done)), H', ⟨by have := HJ15.out; have := HJ87.out; have := HK3.out; omega⟩, ⟨by (with_reducible repeat (first | apply Kd.R_alloc | apply Kd.R_drewN | apply Kd.R_drew)); exact HO_23.out⟩, ⟨by (with_reducible repeat (first | apply Kd.R_alloc | apply Kd.R_drewN | apply Kd.R_drew)); exact HO_272.out⟩, ⟨bk_⟩, ⟨bk_⟩, ⟨bw_⟩⟩
                    ·
                     replace c116 := Bool.eq_false_iff.mpr c116
                     subst c116
                     rw [if_neg (show ¬ (false = true) by decide)] at H
                     exact absurd ((Option.some.inj H).trans HRT.out) (by decide)
                 ·
                  rw [if_neg c112] at H
                  have c112b0 : (t441 == t443) = false := beq_eq_false_iff_ne.mpr c112
                  have c112b1 : (t441 != t443) = true := bne_iff_ne.mpr c112
                  exact absurd ((Option.some.inj H).trans HRT.out) (by decide)
                ·
                 replace c111 := Bool.eq_false_iff.mpr c111
                 subst c111
                 rw [if_neg (show ¬ (false = true) by decide)] at H
                 exact absurd ((Option.some.inj H).trans HRT.out) (by decide)
               ·
                replace c110 := Bool.eq_false_iff.mpr c110
                subst c110
                rw [if_neg (show ¬ (false = true) by decide)] at H
                exact absurd ((Option.some.inj H).trans HRT.out) (by decide)
              ·
               rw [if_neg c107] at H
               exact absurd H (by simp)
             ·
              rw [if_neg c106] at H
              exact absurd H (by simp)
            ·
             rw [if_neg c105] at H
             have c105b0 : decide (x274_3 < (t406.length : Int)) = false := decide_eq_false c105
             clear c105
             have H' := Aside0.mk H
             clear H
             go_wp2
             go_meet
             case rel => exact ⟨_, H', ⟨by have := HJ15.out; have := HJ87.out; have := HK3.out; first | omega | exact Nat.le_refl _⟩, ⟨by (with_reducible repeat (first | apply Kd.R_alloc | apply Kd.R_drewN | apply Kd.R_drew)); exact Kd.R_mono HO_23.out (fun _ hk => trivial)⟩, ⟨bk_⟩, ⟨bk_⟩, ⟨bw_⟩⟩
      ·
       replace c87 := Bool.eq_false_iff.mpr c87
       subst c87
       rw [if_neg (show ¬ (false = true) by decide)] at H
       have H' := Aside0.mk H
       clear H
       go_wp2
       go_meet
       case rel => exact ⟨_, H', ⟨by have := HJ15.out; first | omega | exact Nat.le_refl _⟩, ⟨by (with_reducible repeat (first | apply Kd.R_alloc | apply Kd.R_drewN | apply Kd.R_drew)); exact Kd.R_mono HO_23.out (fun _ hk => trivial)⟩, ⟨bk_⟩, ⟨bk_⟩, ⟨bw_⟩⟩
     case rest => as_aux_lemma =>
      clear HC86
      (try clear c1); (try clear c4); (try clear c85); (try clear hcz21_0); (try clear hcz21_1); (try clear hcz22_0); (try clear hcz22_1); (try clear hcz24_0); (try clear hcz24_1); (try clear hcz25_0); (try clear hcz25_1); (try clear hcz27_0); (try clear hcz27_1); (try clear hcz28_0); (try clear hcz28_1); (try clear hcz30_0); (try clear hcz30_1); (try clear hcz31_0); (try clear hcz31_1); (try clear hcz33_0); (try clear hcz33_1); (try clear hcz34_0); (try clear hcz34_1); (try clear hcz36_0); (try clear hcz36_1); (try clear hcz37_0); (try clear hcz37_1); (try clear hcz39_0); (try clear hcz39_1); (try clear hcz40_0); (try clear hcz40_1); (try clear hcz42_0); (try clear hcz42_1); (try clear hcz43_0); (try clear hcz43_1); (try clear hcz45_0); (try clear hcz45_1); (try clear hcz46_0); (try clear hcz46_1); (try clear hcz48_0); (try clear hcz48_1); (try clear hcz49_0); (try clear hcz49_1); (try clear hfz21_0); (try clear hfz21_1); (try clear hfz22_0); (try clear hfz22_1); (try clear hfz24_0); (try clear hfz24_1); (try clear hfz25_0); (try clear hfz25_1); (try clear hfz27_0); (try clear hfz27_1); (try clear hfz28_0); (try clear hfz28_1); (try clear hfz30_0); (try clear hfz30_1); (try clear hfz31_0); (try clear hfz31_1); (try clear hfz33_0); (try clear hfz33_1); (try clear hfz34_0); (try clear hfz34_1); (try clear hfz36_0); (try clear hfz36_1); (try clear hfz37_0); (try clear hfz37_1); (try clear hfz39_0); (try clear hfz39_1); (try clear hfz40_0); (try clear hfz40_1); (try clear hfz42_0); (try clear hfz42_1); (try clear hfz43_0); (try clear hfz43_1); (try clear hfz45_0); (try clear hfz45_1); (try clear hfz46_0); (try clear hfz46_1); (try clear hfz48_0); (try clear hfz48_1); (try clear hfz49_0); (try clear hfz49_1)
      obtain ⟨kq, HA, HJ85, HO_23, BK404, BK405, HB⟩ := hcut
      cases kq with
      | zero => exact absurd HA.out (by simp [laws_FnRunnersMeet.j3])
      | succ kj85 =>
       have H := HA.out
       clear HA
       simp only [laws_FnRunnersMeet.j3] at H
       have HC123 := Aside0.mk H
       clear H
       go_upto_region 27 with (fail)
       go_cut [340] from 319 to 340 (fun v340 wc => ∃ (kq : Nat) (x340_122 : Bool), v340 = .bool x340_122 ∧ Aside0 (laws_FnRunnersMeet.j4 kq l1 t398 t403 t414 t424 t427 t432 t433 x340_122 t399 t400 t401 t402 = some r) ∧ Aside0 (kq ≤ kj85) ∧ Aside0 (Kd.R (Kd.int .i64) 3 wc w.heap.size (fun _ => True) v425 t424) ∧ Aside0 (wc.heap[gb404]? = some (.cells #[.int .i64 t399, .int .i64 t400] 45 (0, 0))) ∧ Aside0 (wc.heap[gb405]? = some (.cells #[.int .i64 t401, .int .i64 t402] 45 (0, 0))) ∧ Aside0 (Below w.heap.size w wc))
       case first => as_aux_lemma =>
        have H := HC123.out
        clear HC123
        by_cases c124 : t427 = true
        ·
         subst c124
         rw [if_pos rfl] at H
         replace H := Option.bind_eq_some_iff.mp H
         obtain ⟨t446, A1250, H⟩ := H
         (try dsimp only at H)
         have A125 := Aside0.mk A1250
         clear A1250
         by_cases c126 : t446 = true
         ·
          subst c126
          rw [if_pos rfl] at H
          by_cases c127 : ((decide ((t424.length : Int) > 0)) != t420) = true
          ·
           rw [if_pos c127] at H
           have c127b0 : ((decide ((t424.length : Int) > 0)) != t420) = true := c127
           (try (have c127b1 : decide ((decide ((t424.length : Int) > 0)) = t420) = false := by simpa using c127))
           (try (have c127b2 : ((decide ((t424.length : Int) > 0)) == t420) = false := by simpa using c127))
           (try (have c127b3 : ¬ ((decide ((t424.length : Int) > 0)) = t420) := by simpa using c127))
           clear c127
           (first | rw [c127b0] | (simp only [i64_w, i32_w]; rw [c127b0]) | skip)
           exact absurd (H.trans (congrArg some HRT.out)) (by cases kj85 <;> simp [laws_FnRunnersMeet.j4])
          ·
           rw [if_neg c127] at H
           have c127b0 : ((decide ((t424.length : Int) > 0)) != t420) = false := by simpa using c127
           (try (have c127b1 : decide ((decide ((t424.length : Int) > 0)) = t420) = true := by simpa using c127))
           (try (have c127b2 : ((decide ((t424.length : Int) > 0)) == t420) = true := by simpa using c127))
           clear c127
           (first | rw [c127b0] | (simp only [i64_w, i32_w]; rw [c127b0]) | skip)
           by_cases c128 : t420 = true
           ·
            subst c128
            have q0 : (t424.length : Int) > 0 := of_decide_eq_true (bne_eq_false_iff_eq.mp c127b0)
            have q1 : decide (0 < t424.length) = true := decide_eq_true (by omega)
            have q2 : decide (0 < (t424.length : Int)) = true := decide_eq_true (by omega)
            clear q0 c127b0
            (try clear c127b1)
            (try clear c127b2)
            rw [if_pos rfl] at H
            replace H := Option.bind_eq_some_iff.mp H
            obtain ⟨t447, A1290, H⟩ := H
            (try dsimp only at H)
            have A129 := Aside0.mk A1290
            clear A1290
            have H' := Aside0.mk H
            clear H
            obtain ⟨Ao130, co130, eo130⟩ := Kd.R_slice HO_23.out
            subst eo130
            go_wp2_with (first | (go_at_call 33; (with_reducible refine (laws_qRises.calls kj85 _ _ t424 true _ ?side1 ?side2 A125.out).mono ?_); (case side1 => repeat (first | exact (Kd.R_reads' HO_23.out).2.2 | (with_reducible refine Kd.C_alloc ?_ _) | (with_reducible refine Kd.C_drewN ?_ _) | (with_reducible refine Kd.C_drew ?_))); (case side2 => exact (Kd.R_reads' HO_23.out).2.1); rintro e w' ⟨rfl, ⟨nd, rfl⟩⟩) | (go_at_call 35; (with_reducible refine (laws_qHas.calls kj85 _ _ t424 t419 t447 _ ?side1 ?side2 A129.out).mono ?_); (case side1 => repeat (first | exact (Kd.R_reads' HO_23.out).2.2 | (with_reducible refine Kd.C_alloc ?_ _) | (with_reducible refine Kd.C_drewN ?_ _) | (with_reducible refine Kd.C_drew ?_))); (case side2 => exact (Kd.R_reads' HO_23.out).2.1); rintro e w' ⟨rfl, ⟨nd, rfl⟩⟩))
            go_meet
            case rel => exact ⟨_, (!t447), (by first | rfl | (simp; done) | (simp [*]; done)), H', ⟨by have := HJ15.out; have := HJ85.out; first | omega | exact Nat.le_refl _⟩, ⟨by (with_reducible repeat (first | apply Kd.R_alloc | apply Kd.R_drewN | apply Kd.R_drew)); exact HO_23.out⟩, ⟨bk_⟩, ⟨bk_⟩, ⟨bw_⟩⟩
           ·
            replace c128 := Bool.eq_false_iff.mpr c128
            subst c128
            have q0 : ¬ (t424.length : Int) > 0 := of_decide_eq_false (bne_eq_false_iff_eq.mp c127b0)
            have q1 : decide (0 < t424.length) = false := decide_eq_false (by omega)
            have q2 : decide (0 < (t424.length : Int)) = false := decide_eq_false (by omega)
            clear q0 c127b0
            (try clear c127b1)
            (try clear c127b2)
            rw [if_neg (show ¬ (false = true) by decide)] at H
            have H' := Aside0.mk H
            clear H
            obtain ⟨Ao131, co131, eo131⟩ := Kd.R_slice HO_23.out
            subst eo131
            go_wp2_with (first | (go_at_call 33; (with_reducible refine (laws_qRises.calls kj85 _ _ t424 true _ ?side1 ?side2 A125.out).mono ?_); (case side1 => repeat (first | exact (Kd.R_reads' HO_23.out).2.2 | (with_reducible refine Kd.C_alloc ?_ _) | (with_reducible refine Kd.C_drewN ?_ _) | (with_reducible refine Kd.C_drew ?_))); (case side2 => exact (Kd.R_reads' HO_23.out).2.1); rintro e w' ⟨rfl, ⟨nd, rfl⟩⟩))
            go_meet
            case rel => exact ⟨_, (false), (by first | rfl | (simp; done) | (simp [*]; done)), H', ⟨by have := HJ15.out; have := HJ85.out; first | omega | exact Nat.le_refl _⟩, ⟨by (with_reducible repeat (first | apply Kd.R_alloc | apply Kd.R_drewN | apply Kd.R_drew)); exact HO_23.out⟩, ⟨bk_⟩, ⟨bk_⟩, ⟨bw_⟩⟩
         ·
          replace c126 := Bool.eq_false_iff.mpr c126
          subst c126
          rw [if_neg (show ¬ (false = true) by decide)] at H
          exact absurd (H.trans (congrArg some HRT.out)) (by cases kj85 <;> simp [laws_FnRunnersMeet.j4])
        ·
         replace c124 := Bool.eq_false_iff.mpr c124
         subst c124
         rw [if_neg (show ¬ (false = true) by decide)] at H
         have H' := Aside0.mk H
         clear H
         go_wp2
         go_meet
         case rel => exact ⟨_, (false), (by first | rfl | (simp; done) | (simp [*]; done)), H', ⟨by have := HJ15.out; have := HJ85.out; first | omega | exact Nat.le_refl _⟩, ⟨by (with_reducible repeat (first | apply Kd.R_alloc | apply Kd.R_drewN | apply Kd.R_drew)); exact HO_23.out⟩, ⟨bk_⟩, ⟨bk_⟩, ⟨bw_⟩⟩
       case rest => as_aux_lemma =>
        clear HC123
        (try clear c1); (try clear c4); (try clear c85); (try clear hcz21_0); (try clear hcz21_1); (try clear hcz22_0); (try clear hcz22_1); (try clear hcz24_0); (try clear hcz24_1); (try clear hcz25_0); (try clear hcz25_1); (try clear hcz27_0); (try clear hcz27_1); (try clear hcz28_0); (try clear hcz28_1); (try clear hcz30_0); (try clear hcz30_1); (try clear hcz31_0); (try clear hcz31_1); (try clear hcz33_0); (try clear hcz33_1); (try clear hcz34_0); (try clear hcz34_1); (try clear hcz36_0); (try clear hcz36_1); (try clear hcz37_0); (try clear hcz37_1); (try clear hcz39_0); (try clear hcz39_1); (try clear hcz40_0); (try clear hcz40_1); (try clear hcz42_0); (try clear hcz42_1); (try clear hcz43_0); (try clear hcz43_1); (try clear hcz45_0); (try clear hcz45_1); (try clear hcz46_0); (try clear hcz46_1); (try clear hcz48_0); (try clear hcz48_1); (try clear hcz49_0); (try clear hcz49_1); (try clear hfz21_0); (try clear hfz21_1); (try clear hfz22_0); (try clear hfz22_1); (try clear hfz24_0); (try clear hfz24_1); (try clear hfz25_0); (try clear hfz25_1); (try clear hfz27_0); (try clear hfz27_1); (try clear hfz28_0); (try clear hfz28_1); (try clear hfz30_0); (try clear hfz30_1); (try clear hfz31_0); (try clear hfz31_1); (try clear hfz33_0); (try clear hfz33_1); (try clear hfz34_0); (try clear hfz34_1); (try clear hfz36_0); (try clear hfz36_1); (try clear hfz37_0); (try clear hfz37_1); (try clear hfz39_0); (try clear hfz39_1); (try clear hfz40_0); (try clear hfz40_1); (try clear hfz42_0); (try clear hfz42_1); (try clear hfz43_0); (try clear hfz43_1); (try clear hfz45_0); (try clear hfz45_1); (try clear hfz46_0); (try clear hfz46_1); (try clear hfz48_0); (try clear hfz48_1); (try clear hfz49_0); (try clear hfz49_1)
        obtain ⟨kq, x340_122, rfl, HA, HJ122, HO_23, BK404, BK405, HB⟩ := hcut
        cases kq with
        | zero => exact absurd HA.out (by simp [laws_FnRunnersMeet.j4])
        | succ kj122 =>
         have H := HA.out
         clear HA
         simp only [laws_FnRunnersMeet.j4] at H
         by_cases c132 : x340_122 = true
         ·
          subst c132
          rw [if_pos rfl] at H
          exact absurd ((Option.some.inj H).trans HRT.out) (by decide)
         ·
          replace c132 := Bool.eq_false_iff.mpr c132
          subst c132
          rw [if_neg (show ¬ (false = true) by decide)] at H
          have HC133 := Aside0.mk H
          clear H
          go_upto_if 341 with (fail)
          go_cut [] from 342 to 422 (fun wc => ∃ (kq : Nat), Aside0 (laws_FnRunnersMeet.j8 kq l1 t398 t403 t414 t432 t433 t399 t400 t401 t402 = some r) ∧ Aside0 (kq ≤ kj122) ∧ Aside0 (wc.heap[gb404]? = some (.cells #[.int .i64 t399, .int .i64 t400] 45 (0, 0))) ∧ Aside0 (wc.heap[gb405]? = some (.cells #[.int .i64 t401, .int .i64 t402] 45 (0, 0))) ∧ Aside0 (Below w.heap.size w wc))
          case first => as_aux_lemma =>
           have H := HC133.out
           clear HC133
           by_cases c134 : t427 = true
           ·
            subst c134
            rw [if_pos rfl] at H
            obtain ⟨y448, hy448⟩ : ∃ y_ : List (S45), y_ = (([(⟨t399, t400⟩ : S45), (⟨t401, t402⟩ : S45)] : List (S45))) := ⟨_, rfl⟩
            replace H : ((impl_RunPeriod.f kj122 t398 y448).bind fun bt451 => (if bt451.2 = true then (laws_FnRunnersMeet.j5 kj122 l1 t398 t403 t414 t424 t432 t433 bt451.1 (decide (bt451.1 > t398)) t399 t400 t401 t402) else (laws_FnRunnersMeet.j5 kj122 l1 t398 t403 t414 t424 t432 t433 bt451.1 true t399 t400 t401 t402))) = some r := by first | (rw [hy448]; with_reducible exact H) | (have H2_ := (Option.bind_some _ _).symm.trans H; rw [hy448]; with_reducible exact H2_) | (have H2_ := (Option.bind_some _ _).symm.trans H; with_reducible exact H2_) | with_reducible exact H | (rw [hy448]; exact H) | exact H
            have Ny448 := Aside0.mk hy448
            clear hy448
            replace H := Option.bind_eq_some_iff.mp H
            obtain ⟨⟨t451, t452⟩, A1350, H⟩ := H
            (try dsimp only at H)
            have A135 := Aside0.mk A1350
            clear A1350
            have HC136 := Aside0.mk H
            clear H
            have hnb137 := NB404_405.out
            have hnc137 := NB405_404.out
            have hcz138_0 : wc.cell? ⟨gb404, 0, none⟩ = some (.int .i64 t399) := (blk_cell BK404.out 0).trans rfl
            have hcz138_1 : wc.cell? ⟨gb404, 1, none⟩ = some (.int .i64 t400) := (blk_cell BK404.out 1).trans rfl
            have hfz138_0 := blk_frozen BK404.out 0
            have hfz138_1 := blk_frozen BK404.out 1
            have hcz139_0 : wc.cell? ⟨gb405, 0, none⟩ = some (.int .i64 t401) := (blk_cell BK405.out 0).trans rfl
            have hcz139_1 : wc.cell? ⟨gb405, 1, none⟩ = some (.int .i64 t402) := (blk_cell BK405.out 1).trans rfl
            have hfz139_0 := blk_frozen BK405.out 0
            have hfz139_1 := blk_frozen BK405.out 1
            go_upto_region 31 with (first | ((with_reducible refine gate_dst (N := 346) rfl ?_); (try (refine gate_guard (by rfl) ?_; dsimp only)); refine Kd.R_lit k45 _ 45 ?hg (N := 346) ?hd (xs := ([(⟨t399, t400⟩ : S45), (⟨t401, t402⟩ : S45)] : List (S45))) (inner := [.int .i64 t399, .int .i64 t400, .int .i64 t401, .int .i64 t402]) (ok := fun _ => True) (okp := fun _ => True) ?hr ?hp (fun _ hk => hk) trivial (Below.refl _ _) (Nat.le_refl _) (by simp) ?_; (case hd => rfl); (case hg => rfl); (case hr => first | (go_simp; done) | (go_simp; rfl)); (case hp => exact (Reps.c2 (show Kd.M k45 _ _ _ (⟨t399, t400⟩ : S45) [.int .i64 t399, .int .i64 t400] from (k45_mkM _ _ _ (⟨t399, t400⟩ : S45) )) (Reps.c2 (show Kd.M k45 _ _ _ (⟨t401, t402⟩ : S45) [.int .i64 t401, .int .i64 t402] from (k45_mkM _ _ _ (⟨t401, t402⟩ : S45) )) (Reps.none _ _)))); intro v449 w140 ho141 hb hg_ hnew_; clear hg_ hnew_; (first | rw [← Ny448.out] at ho141 | (simp only [Int.reduceToNat] at ho141; rw [← Ny448.out] at ho141)); have n0_ := Aside0.mk (Kd.R_below (by (with_reducible repeat (first | apply Kd.R_alloc | apply Kd.R_drewN | apply Kd.R_drew)); exact HO_23.out) hb); have n1_ := Aside0.mk (Kd.R_lower (Kd.R_newB (Kd.R_newB ho141 (g := gb404) (o := .cells #[.int .i64 t399, .int .i64 t400] 45 (0, 0)) bk_) (g := gb405) (o := .cells #[.int .i64 t401, .int .i64 t402] 45 (0, 0)) bk_) (below_size bw_)); have n2_ := Aside0.mk (blk_below (g := gb404) (o := .cells #[.int .i64 t399, .int .i64 t400] 45 (0, 0)) bk_ hb); have n3_ := Aside0.mk (blk_below (g := gb405) (o := .cells #[.int .i64 t401, .int .i64 t402] 45 (0, 0)) bk_ hb); have n4_ := Aside0.mk (below_step bw_ hb); clear HO_23; clear BK404; clear BK405; clear HB; have HO_23 := n0_; have HO450 := n1_; have BK404 := n2_; have BK405 := n3_; have HB := n4_; clear n0_ n1_ n2_ n3_ n4_; clear hb ho141; obtain ⟨Ao142, co142, eo142⟩ := Kd.R_slice HO450.out; subst eo142) | ((with_reducible refine gate_callee (f := 36) rfl ?_); refine goesL_ (some 347) rfl rfl Try.func36 (by kernel_rfl) rfl #[.int .i64 t398, .slice Ao142 y448.length co142] rfl (by (try simp only [List.map_toArray, List.map_cons, List.map_nil]); first | done | rfl | (simp only [List.length_drop, List.length_take]; rfl)) ?_; (with_reducible refine (impl_RunPeriod.calls kj122 t398 _ _ y448 t451 t452 _ ?side1 ?side2 A135.out).mono ?_); (case side1 => repeat (first | exact (Kd.R_reads' HO450.out).2.2 | (with_reducible refine Kd.C_alloc ?_ _) | (with_reducible refine Kd.C_drewN ?_ _) | (with_reducible refine Kd.C_drew ?_))); (case side2 => exact (Kd.R_reads' HO450.out).2.1); rintro e w143 ⟨rfl, hb⟩; refine ⟨_, rfl, ?_⟩; have n0_ := Aside0.mk (Kd.R_below (by (with_reducible repeat (first | apply Kd.R_alloc | apply Kd.R_drewN | apply Kd.R_drew)); exact HO_23.out) hb); have n1_ := Aside0.mk (Kd.R_below (by (with_reducible repeat (first | apply Kd.R_alloc | apply Kd.R_drewN | apply Kd.R_drew)); exact HO450.out) hb); have n2_ := Aside0.mk (blk_below (g := gb404) (o := .cells #[.int .i64 t399, .int .i64 t400] 45 (0, 0)) bk_ hb); have n3_ := Aside0.mk (blk_below (g := gb405) (o := .cells #[.int .i64 t401, .int .i64 t402] 45 (0, 0)) bk_ hb); have n4_ := Aside0.mk (below_step bw_ hb); clear HO_23; clear HO450; clear BK404; clear BK405; clear HB; have HO_23 := n0_; have HO450 := n1_; have BK404 := n2_; have BK405 := n3_; have HB := n4_; clear n0_ n1_ n2_ n3_ n4_; (try clear hb); (try clear hb2); (try clear hk); (try clear hi)))
            (try simp only [Act.put, List.setIfInBounds_toArray, List.set_cons_zero, List.set_cons_succ])
            go_cut [356] from 350 to 356 (fun v356 wc => ∃ (kq : Nat) (x356_135 : Bool), v356 = .bool x356_135 ∧ Aside0 (laws_FnRunnersMeet.j5 kq l1 t398 t403 t414 t424 t432 t433 t451 x356_135 t399 t400 t401 t402 = some r) ∧ Aside0 (kq ≤ kj122) ∧ Aside0 (Kd.R (Kd.int .i64) 3 wc w.heap.size (fun _ => True) v425 t424) ∧ Aside0 (wc.heap[gb404]? = some (.cells #[.int .i64 t399, .int .i64 t400] 45 (0, 0))) ∧ Aside0 (wc.heap[gb405]? = some (.cells #[.int .i64 t401, .int .i64 t402] 45 (0, 0))) ∧ Aside0 (Below w.heap.size w wc))
            case first => as_aux_lemma =>
             have H := HC136.out
             clear HC136
             by_cases c144 : t452 = true
             ·
              subst c144
              rw [if_pos rfl] at H
              have H' := Aside0.mk H
              clear H
              go_wp2
              go_meet
              case rel => exact ⟨_, (decide (t451 > t398)), (by first | rfl | (simp; done) | (simp [*]; done)), H', ⟨by have := HJ15.out; have := HJ85.out; have := HJ122.out; first | omega | exact Nat.le_refl _⟩, ⟨by (with_reducible repeat (first | apply Kd.R_alloc | apply Kd.R_drewN | apply Kd.R_drew)); exact HO_23.out⟩, ⟨bk_⟩, ⟨bk_⟩, ⟨bw_⟩⟩
             ·
              replace c144 := Bool.eq_false_iff.mpr c144
              subst c144
              rw [if_neg (show ¬ (false = true) by decide)] at H
              exact absurd (H.trans (congrArg some HRT.out)) (by cases kj122 <;> simp [laws_FnRunnersMeet.j5])
            case rest => as_aux_lemma =>
             clear HC136
             (try clear c1); (try clear c2); (try clear c4); (try clear c85); (try clear c132); (try clear c134); (try clear hcz138_0); (try clear hcz138_1); (try clear hcz139_0); (try clear hcz139_1); (try clear hcz21_0); (try clear hcz21_1); (try clear hcz22_0); (try clear hcz22_1); (try clear hcz24_0); (try clear hcz24_1); (try clear hcz25_0); (try clear hcz25_1); (try clear hcz27_0); (try clear hcz27_1); (try clear hcz28_0); (try clear hcz28_1); (try clear hcz30_0); (try clear hcz30_1); (try clear hcz31_0); (try clear hcz31_1); (try clear hcz33_0); (try clear hcz33_1); (try clear hcz34_0); (try clear hcz34_1); (try clear hcz36_0); (try clear hcz36_1); (try clear hcz37_0); (try clear hcz37_1); (try clear hcz39_0); (try clear hcz39_1); (try clear hcz40_0); (try clear hcz40_1); (try clear hcz42_0); (try clear hcz42_1); (try clear hcz43_0); (try clear hcz43_1); (try clear hcz45_0); (try clear hcz45_1); (try clear hcz46_0); (try clear hcz46_1); (try clear hcz48_0); (try clear hcz48_1); (try clear hcz49_0); (try clear hcz49_1); (try clear hfz138_0); (try clear hfz138_1); (try clear hfz139_0); (try clear hfz139_1); (try clear hfz21_0); (try clear hfz21_1); (try clear hfz22_0); (try clear hfz22_1); (try clear hfz24_0); (try clear hfz24_1); (try clear hfz25_0); (try clear hfz25_1); (try clear hfz27_0); (try clear hfz27_1); (try clear hfz28_0); (try clear hfz28_1); (try clear hfz30_0); (try clear hfz30_1); (try clear hfz31_0); (try clear hfz31_1); (try clear hfz33_0); (try clear hfz33_1); (try clear hfz34_0); (try clear hfz34_1); (try clear hfz36_0); (try clear hfz36_1); (try clear hfz37_0); (try clear hfz37_1); (try clear hfz39_0); (try clear hfz39_1); (try clear hfz40_0); (try clear hfz40_1); (try clear hfz42_0); (try clear hfz42_1); (try clear hfz43_0); (try clear hfz43_1); (try clear hfz45_0); (try clear hfz45_1); (try clear hfz46_0); (try clear hfz46_1); (try clear hfz48_0); (try clear hfz48_1); (try clear hfz49_0); (try clear hfz49_1)
             obtain ⟨kq, x356_135, rfl, HA, HJ135, HO_23, BK404, BK405, HB⟩ := hcut
             cases kq with
             | zero => exact absurd HA.out (by simp [laws_FnRunnersMeet.j5])
             | succ kj135 =>
              have H := HA.out
              clear HA
              simp only [laws_FnRunnersMeet.j5] at H
              by_cases c145 : x356_135 = true
              ·
               subst c145
               rw [if_pos rfl] at H
               exact absurd ((Option.some.inj H).trans HRT.out) (by decide)
              ·
               replace c145 := Bool.eq_false_iff.mpr c145
               subst c145
               rw [if_neg (show ¬ (false = true) by decide)] at H
               by_cases c146 : 0 ≤ t398
               ·
                rw [if_pos c146] at H
                have c146b0 := eq_true c146
                have c146b1 : decide (0 ≤ t398) = true := decide_eq_true c146
                clear c146
                by_cases c147 : (t398 : Int).toNat ≤ 281474976710656
                ·
                 rw [if_pos c147] at H
                 have c147b0 := eq_true c147
                 have c147b1 : decide ((t398 : Int).toNat ≤ 281474976710656) = true := decide_eq_true c147
                 clear c147
                 obtain ⟨y453, hy453⟩ : ∃ y_ : List Bool, y_ = (List.replicate (t398 : Int).toNat false) := ⟨_, rfl⟩
                 replace H : (laws_FnRunnersMeet.l1 kj135 l1 t398 t403 t414 t424 t432 t433 t451 y453 0 0 t399 t400 t401 t402) = some r := by first | (rw [hy453]; with_reducible exact H) | (have H2_ := (Option.bind_some _ _).symm.trans H; rw [hy453]; with_reducible exact H2_) | (have H2_ := (Option.bind_some _ _).symm.trans H; with_reducible exact H2_) | with_reducible exact H | (rw [hy453]; exact H) | exact H
                 have Ny453 := Aside0.mk hy453
                 clear hy453
                 have H' := Aside0.mk H
                 clear H
                 go_wp2_with (first | ((with_reducible refine gate_dst (N := 358) rfl ?_); (try (refine gate_guard (by rfl) ?_; dsimp only)); refine Kd.R_make Kd.bool _ 4 rfl (N := 358) rfl 56 _ _ rfl t398 rfl rfl Try.underlying56 (.bool false) 1 info4 rfl (by decide) (by omega) false (ok := fun _ => True) (okp := fun _ => True) rfl (fun _ hk => hk) trivial (of_decide_eq_true (by first | (with_reducible assumption) | assumption)) (Nat.le_trans (Nat.mul_le_mul_right _ (of_decide_eq_true (by first | (with_reducible assumption) | assumption) : t398.toNat ≤ 281474976710656)) (by omega)) (Below.refl _ _) (Nat.le_refl _) ?_; intro v454 w148 ho149 hb hg_ hnew_; clear hg_ hnew_; (first | rw [← Ny453.out] at ho149 | (simp only [Int.reduceToNat] at ho149; rw [← Ny453.out] at ho149)); have n0_ := Aside0.mk (Kd.R_below (by (with_reducible repeat (first | apply Kd.R_alloc | apply Kd.R_drewN | apply Kd.R_drew)); exact HO_23.out) hb); have n1_ := Aside0.mk (Kd.R_lower ho149 (below_size bw_)); have n2_ := Aside0.mk (blk_below (g := gb404) (o := .cells #[.int .i64 t399, .int .i64 t400] 45 (0, 0)) bk_ hb); have n3_ := Aside0.mk (blk_below (g := gb405) (o := .cells #[.int .i64 t401, .int .i64 t402] 45 (0, 0)) bk_ hb); have n4_ := Aside0.mk (below_step bw_ hb); clear HO_23; clear BK404; clear BK405; clear HB; have HO_23 := n0_; have HO455 := n1_; have BK404 := n2_; have BK405 := n3_; have HB := n4_; clear n0_ n1_ n2_ n3_ n4_; clear hb ho149))
                 go_loopg [40, 41] kj135 (fun kq v40 v41 w' => ∃ (x39_5 : List Bool) (x40_5 : Int) (x41_5 : Int), v40 = .int .i64 x40_5 ∧ v41 = .int .i64 x41_5 ∧ Aside0 (laws_FnRunnersMeet.l1 kq l1 t398 t403 t414 t424 t432 t433 t451 x39_5 x40_5 x41_5 t399 t400 t401 t402 = some r) ∧ Aside0 (kq ≤ kj135) ∧ Aside0 (Kd.R (Kd.int .i64) 3 w' w.heap.size (fun _ => True) v425 t424) ∧ Aside0 (Kd.R Kd.bool 4 w' w.heap.size (fun _ => True) v454 x39_5) ∧ Aside0 (w'.heap[gb404]? = some (.cells #[.int .i64 t399, .int .i64 t400] 45 (0, 0))) ∧ Aside0 (w'.heap[gb405]? = some (.cells #[.int .i64 t401, .int .i64 t402] 45 (0, 0))) ∧ Aside0 (Below w.heap.size w w'))
                 case atStart => exact ⟨(y453), (0), (0), (by first | rfl | (simp; done) | (simp [*]; done)), (by first | rfl | (simp; done) | (simp [*]; done)), H', ⟨Nat.le_refl _⟩, ⟨by (with_reducible repeat (first | apply Kd.R_alloc | apply Kd.R_drewN | apply Kd.R_drew)); exact HO_23.out⟩, ⟨by (with_reducible repeat (first | apply Kd.R_alloc | apply Kd.R_drewN | apply Kd.R_drew)); exact HO455.out⟩, ⟨bk_⟩, ⟨bk_⟩, ⟨bw_⟩⟩
                 case round => as_aux_lemma =>
                  clear H'
                  (try clear c1); (try clear c2); (try clear c4); (try clear c85); (try clear c132); (try clear c134); (try clear c145); (try clear c146); (try clear c146b0); (try clear c146b1); (try clear c147); (try clear c147b0); (try clear c147b1); (try clear hcz138_0); (try clear hcz138_1); (try clear hcz139_0); (try clear hcz139_1); (try clear hcz21_0); (try clear hcz21_1); (try clear hcz22_0); (try clear hcz22_1); (try clear hcz24_0); (try clear hcz24_1); (try clear hcz25_0); (try clear hcz25_1); (try clear hcz27_0); (try clear hcz27_1); (try clear hcz28_0); (try clear hcz28_1); (try clear hcz30_0); (try clear hcz30_1); (try clear hcz31_0); (try clear hcz31_1); (try clear hcz33_0); (try clear hcz33_1); (try clear hcz34_0); (try clear hcz34_1); (try clear hcz36_0); (try clear hcz36_1); (try clear hcz37_0); (try clear hcz37_1); (try clear hcz39_0); (try clear hcz39_1); (try clear hcz40_0); (try clear hcz40_1); (try clear hcz42_0); (try clear hcz42_1); (try clear hcz43_0); (try clear hcz43_1); (try clear hcz45_0); (try clear hcz45_1); (try clear hcz46_0); (try clear hcz46_1); (try clear hcz48_0); (try clear hcz48_1); (try clear hcz49_0); (try clear hcz49_1); (try clear hfz138_0); (try clear hfz138_1); (try clear hfz139_0); (try clear hfz139_1); (try clear hfz21_0); (try clear hfz21_1); (try clear hfz22_0); (try clear hfz22_1); (try clear hfz24_0); (try clear hfz24_1); (try clear hfz25_0); (try clear hfz25_1); (try clear hfz27_0); (try clear hfz27_1); (try clear hfz28_0); (try clear hfz28_1); (try clear hfz30_0); (try clear hfz30_1); (try clear hfz31_0); (try clear hfz31_1); (try clear hfz33_0); (try clear hfz33_1); (try clear hfz34_0); (try clear hfz34_1); (try clear hfz36_0); (try clear hfz36_1); (try clear hfz37_0); (try clear hfz37_1); (try clear hfz39_0); (try clear hfz39_1); (try clear hfz40_0); (try clear hfz40_1); (try clear hfz42_0); (try clear hfz42_1); (try clear hfz43_0); (try clear hfz43_1); (try clear hfz45_0); (try clear hfz45_1); (try clear hfz46_0); (try clear hfz46_1); (try clear hfz48_0); (try clear hfz48_1); (try clear hfz49_0); (try clear hfz49_1)
                  obtain ⟨x39_5, x40_5, x41_5, rfl, rfl, HA, HK5, HO_23, HO_39, BK404, BK405, HB⟩ := hrel
                  cases gk with
                  | zero => exact absurd HA.out (by simp [laws_FnRunnersMeet.l1])
                  | succ k5 =>
                   have H := HA.out
                   clear HA
                   simp only [laws_FnRunnersMeet.l1] at H
                   by_cases c150 : x41_5 < t451
                   ·
                    rw [if_pos c150] at H
                    have c150b0 : decide (x41_5 < t451) = true := decide_eq_true c150
                    clear c150
                    replace H := Option.bind_eq_some_iff.mp H
                    obtain ⟨⟨t456, t457⟩, A1510, H⟩ := H
                    (try dsimp only at H)
                    have A151 := Aside0.mk A1510
                    clear A1510
                    replace H := Option.bind_eq_some_iff.mp H
                    obtain ⟨⟨t458, t459⟩, A1520, H⟩ := H
                    (try dsimp only at H)
                    have A152 := Aside0.mk A1520
                    clear A1520
                    have HC153 := Aside0.mk H
                    clear H
                    have hnb154 := NB404_405.out
                    have hnc154 := NB405_404.out
                    have hcz155_0 : wr.cell? ⟨gb404, 0, none⟩ = some (.int .i64 t399) := (blk_cell BK404.out 0).trans rfl
                    have hcz155_1 : wr.cell? ⟨gb404, 1, none⟩ = some (.int .i64 t400) := (blk_cell BK404.out 1).trans rfl
                    have hfz155_0 := blk_frozen BK404.out 0
                    have hfz155_1 := blk_frozen BK404.out 1
                    go_upto_region 40 with (first | ((with_reducible refine gate_callee (f := 34) rfl ?_); refine goesL_ (some 368) rfl rfl Try.func34 (by kernel_rfl) rfl #[.int .i64 t398, .agg #[.int .i64 t399, .int .i64 t400], .int .i64 x41_5] rfl (by (try simp only [List.map_toArray, List.map_cons, List.map_nil]); first | done | rfl | (simp only [List.length_drop, List.length_take]; rfl)) ?_; (with_reducible refine (impl_PlaceOnTrack.calls t398 t399 t400 x41_5 t456 t457 _ A151.out).mono ?_); rintro e w156 ⟨rfl, hb⟩; refine ⟨_, rfl, ?_⟩; have n0_ := Aside0.mk (Kd.R_below (by (with_reducible repeat (first | apply Kd.R_alloc | apply Kd.R_drewN | apply Kd.R_drew)); exact HO_23.out) hb); have n1_ := Aside0.mk (Kd.R_below (by (with_reducible repeat (first | apply Kd.R_alloc | apply Kd.R_drewN | apply Kd.R_drew)); exact HO_39.out) hb); have n2_ := Aside0.mk (blk_below (g := gb404) (o := .cells #[.int .i64 t399, .int .i64 t400] 45 (0, 0)) bk_ hb); have n3_ := Aside0.mk (blk_below (g := gb405) (o := .cells #[.int .i64 t401, .int .i64 t402] 45 (0, 0)) bk_ hb); have n4_ := Aside0.mk (below_step bw_ hb); clear HO_23; clear HO_39; clear BK404; clear BK405; clear HB; have HO_23 := n0_; have HO_39 := n1_; have BK404 := n2_; have BK405 := n3_; have HB := n4_; clear n0_ n1_ n2_ n3_ n4_; (try clear hb); (try clear hb2); (try clear hk); (try clear hi); have hcz157_0 : w156.cell? ⟨gb405, 0, none⟩ = some (.int .i64 t401) := (blk_cell BK405.out 0).trans rfl; have hcz157_1 : w156.cell? ⟨gb405, 1, none⟩ = some (.int .i64 t402) := (blk_cell BK405.out 1).trans rfl; have hfz157_0 := blk_frozen BK405.out 0; have hfz157_1 := blk_frozen BK405.out 1) | ((with_reducible refine gate_callee (f := 34) rfl ?_); refine goesL_ (some 375) rfl rfl Try.func34 (by kernel_rfl) rfl #[.int .i64 t398, .agg #[.int .i64 t401, .int .i64 t402], .int .i64 x41_5] rfl (by (try simp only [List.map_toArray, List.map_cons, List.map_nil]); first | done | rfl | (simp only [List.length_drop, List.length_take]; rfl)) ?_; (with_reducible refine (impl_PlaceOnTrack.calls t398 t401 t402 x41_5 t458 t459 _ A152.out).mono ?_); rintro e w158 ⟨rfl, hb⟩; refine ⟨_, rfl, ?_⟩; have n0_ := Aside0.mk (Kd.R_below (by (with_reducible repeat (first | apply Kd.R_alloc | apply Kd.R_drewN | apply Kd.R_drew)); exact HO_23.out) hb); have n1_ := Aside0.mk (Kd.R_below (by (with_reducible repeat (first | apply Kd.R_alloc | apply Kd.R_drewN | apply Kd.R_drew)); exact HO_39.out) hb); have n2_ := Aside0.mk (blk_below (g := gb404) (o := .cells #[.int .i64 t399, .int .i64 t400] 45 (0, 0)) bk_ hb); have n3_ := Aside0.mk (blk_below (g := gb405) (o := .cells #[.int .i64 t401, .int .i64 t402] 45 (0, 0)) bk_ hb); have n4_ := Aside0.mk (below_step bw_ hb); clear HO_23; clear HO_39; clear BK404; clear BK405; clear HB; have HO_23 := n0_; have HO_39 := n1_; have BK404 := n2_; have BK405 := n3_; have HB := n4_; clear n0_ n1_ n2_ n3_ n4_; (try clear hb); (try clear hb2); (try clear hk); (try clear hi)))
                    (try simp only [Act.put, List.setIfInBounds_toArray, List.set_cons_zero, List.set_cons_succ])
                    go_cut [403] from 378 to 403 (fun v403 wc => ∃ (kq : Nat) (x403_152 : Bool), v403 = .bool x403_152 ∧ Aside0 (laws_FnRunnersMeet.j7 kq l1 t398 t403 t414 t424 t432 t433 t451 x39_5 x40_5 x41_5 t456 t458 x403_152 t399 t400 t401 t402 = some r) ∧ Aside0 (kq ≤ k5) ∧ Aside0 (Kd.R (Kd.int .i64) 3 wc w.heap.size (fun _ => True) v425 t424) ∧ Aside0 (Kd.R Kd.bool 4 wc w.heap.size (fun _ => True) v454 x39_5) ∧ Aside0 (wc.heap[gb404]? = some (.cells #[.int .i64 t399, .int .i64 t400] 45 (0, 0))) ∧ Aside0 (wc.heap[gb405]? = some (.cells #[.int .i64 t401, .int .i64 t402] 45 (0, 0))) ∧ Aside0 (Below w.heap.size w wc))
                    case first => as_aux_lemma =>
                     have H := HC153.out
                     clear HC153
                     by_cases c159 : t457 = true
                     ·
                      subst c159
                      rw [if_pos rfl] at H
                      by_cases c160 : t459 = true
                      ·
                       subst c160
                       rw [if_pos rfl] at H
                       by_cases c161 : t456 = t458
                       ·
                        rw [if_pos c161] at H
                        have c161b0 : (t456 == t458) = true := beq_iff_eq.mpr c161
                        have c161b1 : (t456 != t458) = false := bne_eq_false_iff_eq.mpr c161
                        clear c161
                        (first | rw [c161b0] | (simp only [i64_w, i32_w]; rw [c161b0]) | skip)
                        replace H := Option.bind_eq_some_iff.mp H
                        obtain ⟨t460, A1620, H⟩ := H
                        (try dsimp only at H)
                        have A162 := Aside0.mk A1620
                        clear A1620
                        by_cases c163 : t460 = true
                        ·
                         subst c163
                         rw [if_pos rfl] at H
                         by_cases c164 : t456 < 0
                         ·
                          rw [if_pos c164] at H
                          have c164b0 : decide (t456 < 0) = true := decide_eq_true c164
                          clear c164
                          exact absurd (H.trans (congrArg some HRT.out)) (by cases k5 <;> simp [laws_FnRunnersMeet.j7])
                         ·
                          rw [if_neg c164] at H
                          have c164b0 : decide (t456 < 0) = false := decide_eq_false c164
                          clear c164
                          have H' := Aside0.mk H
                          clear H
                          obtain ⟨Ao165, co165, eo165⟩ := Kd.R_slice HO_23.out
                          subst eo165
                          go_wp2_with (first | (go_at_call 35; (with_reducible refine (laws_qHas.calls k5 _ _ t424 t456 true _ ?side1 ?side2 A162.out).mono ?_); (case side1 => repeat (first | exact (Kd.R_reads' HO_23.out).2.2 | (with_reducible refine Kd.C_alloc ?_ _) | (with_reducible refine Kd.C_drewN ?_ _) | (with_reducible refine Kd.C_drew ?_))); (case side2 => exact (Kd.R_reads' HO_23.out).2.1); rintro e w' ⟨rfl, ⟨nd, rfl⟩⟩))
                          go_meet
                          case rel => exact ⟨_, (decide (t456 ≥ t398)), (by first | rfl | (simp; done) | (simp [*]; done)), H', ⟨by have := HJ15.out; have := HJ85.out; have := HJ122.out; have := HJ135.out; have := HK5.out; first | omega | exact Nat.le_refl _⟩, ⟨by (with_reducible repeat (first | apply Kd.R_alloc | apply Kd.R_drewN | apply Kd.R_drew)); exact HO_23.out⟩, ⟨by (with_reducible repeat (first | apply Kd.R_alloc | apply Kd.R_drewN | apply Kd.R_drew)); exact HO_39.out⟩, ⟨bk_⟩, ⟨bk_⟩, ⟨bw_⟩⟩
                        ·
                         replace c163 := Bool.eq_false_iff.mpr c163
                         subst c163
                         rw [if_neg (show ¬ (false = true) by decide)] at H
                         exact absurd (H.trans (congrArg some HRT.out)) (by cases k5 <;> simp [laws_FnRunnersMeet.j7])
                       ·
                        rw [if_neg c161] at H
                        have c161b0 : (t456 == t458) = false := beq_eq_false_iff_ne.mpr c161
                        have c161b1 : (t456 != t458) = true := bne_iff_ne.mpr c161
                        (first | rw [c161b0] | (simp only [i64_w, i32_w]; rw [c161b0]) | skip)
                        by_cases c166 : t456 < 0
                        ·
                         rw [if_pos c166] at H
                         have c166b0 : decide (t456 < 0) = true := decide_eq_true c166
                         clear c166
                         exact absurd (H.trans (congrArg some HRT.out)) (by cases k5 <;> simp [laws_FnRunnersMeet.j7])
                        ·
                         rw [if_neg c166] at H
                         have c166b0 : decide (t456 < 0) = false := decide_eq_false c166
                         clear c166
                         have H' := Aside0.mk H
                         clear H
                         go_wp2
                         go_meet
                         case rel => exact ⟨_, (decide (t456 ≥ t398)), (by first | rfl | (simp; done) | (simp [*]; done)), H', ⟨by have := HJ15.out; have := HJ85.out; have := HJ122.out; have := HJ135.out; have := HK5.out; first | omega | exact Nat.le_refl _⟩, ⟨by (with_reducible repeat (first | apply Kd.R_alloc | apply Kd.R_drewN | apply Kd.R_drew)); exact HO_23.out⟩, ⟨by (with_reducible repeat (first | apply Kd.R_alloc | apply Kd.R_drewN | apply Kd.R_drew)); exact HO_39.out⟩, ⟨bk_⟩, ⟨bk_⟩, ⟨bw_⟩⟩
                      ·
                       replace c160 := Bool.eq_false_iff.mpr c160
                       subst c160
                       rw [if_neg (show ¬ (false = true) by decide)] at H
                       exact absurd (H.trans (congrArg some HRT.out)) (by cases k5 <;> simp [laws_FnRunnersMeet.j7])
                     ·
                      replace c159 := Bool.eq_false_iff.mpr c159
                      subst c159
                      rw [if_neg (show ¬ (false = true) by decide)] at H
                      exact absurd (H.trans (congrArg some HRT.out)) (by cases k5 <;> simp [laws_FnRunnersMeet.j7])
                    case rest => as_aux_lemma =>
                     clear HC153
                     (try clear c1); (try clear c2); (try clear c4); (try clear c85); (try clear c132); (try clear c134); (try clear c145); (try clear c146); (try clear c146b0); (try clear c146b1); (try clear c147); (try clear c147b0); (try clear c147b1); (try clear c150); (try clear c150b0); (try clear hcz138_0); (try clear hcz138_1); (try clear hcz139_0); (try clear hcz139_1); (try clear hcz155_0); (try clear hcz155_1); (try clear hcz157_0); (try clear hcz157_1); (try clear hcz21_0); (try clear hcz21_1); (try clear hcz22_0); (try clear hcz22_1); (try clear hcz24_0); (try clear hcz24_1); (try clear hcz25_0); (try clear hcz25_1); (try clear hcz27_0); (try clear hcz27_1); (try clear hcz28_0); (try clear hcz28_1); (try clear hcz30_0); (try clear hcz30_1); (try clear hcz31_0); (try clear hcz31_1); (try clear hcz33_0); (try clear hcz33_1); (try clear hcz34_0); (try clear hcz34_1); (try clear hcz36_0); (try clear hcz36_1); (try clear hcz37_0); (try clear hcz37_1); (try clear hcz39_0); (try clear hcz39_1); (try clear hcz40_0); (try clear hcz40_1); (try clear hcz42_0); (try clear hcz42_1); (try clear hcz43_0); (try clear hcz43_1); (try clear hcz45_0); (try clear hcz45_1); (try clear hcz46_0); (try clear hcz46_1); (try clear hcz48_0); (try clear hcz48_1); (try clear hcz49_0); (try clear hcz49_1); (try clear hfz138_0); (try clear hfz138_1); (try clear hfz139_0); (try clear hfz139_1); (try clear hfz155_0); (try clear hfz155_1); (try clear hfz157_0); (try clear hfz157_1); (try clear hfz21_0); (try clear hfz21_1); (try clear hfz22_0); (try clear hfz22_1); (try clear hfz24_0); (try clear hfz24_1); (try clear hfz25_0); (try clear hfz25_1); (try clear hfz27_0); (try clear hfz27_1); (try clear hfz28_0); (try clear hfz28_1); (try clear hfz30_0); (try clear hfz30_1); (try clear hfz31_0); (try clear hfz31_1); (try clear hfz33_0); (try clear hfz33_1); (try clear hfz34_0); (try clear hfz34_1); (try clear hfz36_0); (try clear hfz36_1); (try clear hfz37_0); (try clear hfz37_1); (try clear hfz39_0); (try clear hfz39_1); (try clear hfz40_0); (try clear hfz40_1); (try clear hfz42_0); (try clear hfz42_1); (try clear hfz43_0); (try clear hfz43_1); (try clear hfz45_0); (try clear hfz45_1); (try clear hfz46_0); (try clear hfz46_1); (try clear hfz48_0); (try clear hfz48_1); (try clear hfz49_0); (try clear hfz49_1)
                     obtain ⟨kq, x403_152, rfl, HA, HJ152, HO_23, HO_39, BK404, BK405, HB⟩ := hcut
                     cases kq with
                     | zero => exact absurd HA.out (by simp [laws_FnRunnersMeet.j7])
                     | succ kj152 =>
                      have H := HA.out
                      clear HA
                      simp only [laws_FnRunnersMeet.j7] at H
                      by_cases c167 : x403_152 = true
                      ·
                       subst c167
                       rw [if_pos rfl] at H
                       exact absurd ((Option.some.inj H).trans HRT.out) (by decide)
                      ·
                       replace c167 := Bool.eq_false_iff.mpr c167
                       subst c167
                       rw [if_neg (show ¬ (false = true) by decide)] at H
                       by_cases c168 : t456 = t458
                       ·
                        rw [if_pos c168] at H
                        have c168b0 : (t456 == t458) = true := beq_iff_eq.mpr c168
                        have c168b1 : (t456 != t458) = false := bne_eq_false_iff_eq.mpr c168
                        clear c168
                        by_cases c169 : 0 ≤ t456
                        ·
                         rw [if_pos c169] at H
                         have c169b0 : decide (0 ≤ t456) = true := decide_eq_true c169
                         clear c169
                         by_cases c170 : t456 < (x39_5.length : Int)
                         ·
                          rw [if_pos c170] at H
                          have c170b0 : decide (t456 < (x39_5.length : Int)) = true := decide_eq_true c170
                          clear c170
                          obtain ⟨bq171, hbq171⟩ : ∃ b_ : Bool, b_ = (rdOf false x39_5 t456) := ⟨_, rfl⟩
                          replace H : (if bq171 = true then (laws_FnRunnersMeet.l1 kj152 l1 t398 t403 t414 t424 t432 t433 t451 x39_5 x40_5 (wrap64 (x41_5 + 1)) t399 t400 t401 t402) else (laws_FnRunnersMeet.l1 kj152 l1 t398 t403 t414 t424 t432 t433 t451 (x39_5.set (t456 : Int).toNat true) (wrap64 (x40_5 + 1)) (wrap64 (x41_5 + 1)) t399 t400 t401 t402)) = some r := by rw [← hbq171] at H; exact H
                          have Nbq171 := Aside0.mk hbq171
                          clear hbq171
                          by_cases c172 : bq171 = true
                          ·
                           subst c172
                           rw [if_pos rfl] at H
                           have H' := Aside0.mk H
                           clear H
                           obtain ⟨Ao173, co173, eo173⟩ := Kd.R_slice HO_39.out
                           subst eo173
                           have p461 : 0 ≤ (t456 : Int) := of_decide_eq_true (by first | (with_reducible assumption) | assumption)
                           have q461 : t456 < (x39_5.length : Int) := of_decide_eq_true (by first | (with_reducible assumption) | assumption)
                           obtain ⟨ad461, e461, hx461_0⟩ := Kd.at_bool (Kd.R_reads' HO_39.out).2.2 t456 p461 q461
                           (try rw [← Nbq171.out] at hx461_0)
                           cases e461
                           replace p461 := eq_true p461
                           replace q461 := eq_true q461
                           go_wp2
                           go_roundg kj152
                           case measure => have := HJ15.out; have := HJ85.out; have := HJ122.out; have := HJ135.out; have := HK5.out; have := HJ152.out; omega
                           case rel => exact ⟨(x39_5), (x40_5), (wrap64 (x41_5 + 1)), (by first | rfl | (simp; done) | (simp [*]; done)), (by first | rfl | (simp; done) | (simp [*]; done)), H', ⟨by have := HJ15.out; have := HJ85.out; have := HJ122.out; have := HJ135.out; have := HK5.out; have := HJ152.out; omega⟩, ⟨by (with_reducible repeat (first | apply Kd.R_alloc | apply Kd.R_drewN | apply Kd.R_drew)); exact HO_23.out⟩, ⟨by (with_reducible repeat (first | apply Kd.R_alloc | apply Kd.R_drewN | apply Kd.R_drew)); exact HO_39.out⟩, ⟨bk_⟩, ⟨bk_⟩, ⟨bw_⟩⟩
                          ·
                           replace c172 := Bool.eq_false_iff.mpr c172
                           subst c172
                           rw [if_neg (show ¬ (false = true) by decide)] at H
                           obtain ⟨y462, hy462⟩ : ∃ y_ : List Bool, y_ = (x39_5.set (t456 : Int).toNat true) := ⟨_, rfl⟩
                           replace H : (laws_FnRunnersMeet.l1 kj152 l1 t398 t403 t414 t424 t432 t433 t451 y462 (wrap64 (x40_5 + 1)) (wrap64 (x41_5 + 1)) t399 t400 t401 t402) = some r := by first | (rw [hy462]; with_reducible exact H) | (have H2_ := (Option.bind_some _ _).symm.trans H; rw [hy462]; with_reducible exact H2_) | (have H2_ := (Option.bind_some _ _).symm.trans H; with_reducible exact H2_) | with_reducible exact H | (rw [hy462]; exact H) | exact H
                           have Ny462 := Aside0.mk hy462
                           clear hy462
                           have H' := Aside0.mk H
                           clear H
                           obtain ⟨Ao175, co175, eo175⟩ := Kd.R_slice HO_39.out
                           subst eo175
                           have p461 : 0 ≤ (t456 : Int) := of_decide_eq_true (by first | (with_reducible assumption) | assumption)
                           have q461 : t456 < (x39_5.length : Int) := of_decide_eq_true (by first | (with_reducible assumption) | assumption)
                           obtain ⟨ad461, e461, hx461_0⟩ := Kd.at_bool (Kd.R_reads' HO_39.out).2.2 t456 p461 q461
                           (try rw [← Nbq171.out] at hx461_0)
                           cases e461
                           replace p461 := eq_true p461
                           replace q461 := eq_true q461
                           have p174 : 0 ≤ (t456 : Int) := of_decide_eq_true (by first | (with_reducible assumption) | assumption)
                           have q174 : (t456 : Int) < ((x39_5.length : Int) : Int) := of_decide_eq_true (by first | (with_reducible assumption) | assumption)
                           obtain ⟨go174, co174, eo174, gb174, gl174, cl174, HG174⟩ := Kd.R_form HO_39.out (by omega)
                           (first | cases eo174 | (injection eo174 with ea_ en_ ec_; (first | subst ea_ | (injection ea_ with ea_; subst ea_)); subst ec_; clear en_))
                           have GB174 := Aside0.mk gb174
                           have GG174 := Aside0.mk HG174
                           clear gb174 gl174 HG174
                           (first | simp only [add_plain] at hx461_0 | skip)
                           obtain ⟨hx174_0, hf174_0⟩ := Kd.R_celln false HO_39.out (t456 : Int) p174 q174
                           replace p174 := eq_true p174
                           replace q174 := eq_true q174
                           have HP176 := Kd.R_putg HO_39.out (t456 : Int) true
                           go_wp2_with (first | ((with_reducible refine gate_store (t := 4) (p := 416) rfl ?_); refine store_event (t := 4) (p := 416) (v := ?vo_w177) (w1 := (wc.setCell ⟨go174, (t456 : Int).toNat, none⟩ (.bool true))) ?hg ?ho ?hn ?hr ?_; (case ho => rfl); (case hg => rfl); (case hn => rfl); (case hr => first | (go_simp; done) | (go_simp; rfl)); intro w177 hw; have hg : wc.grownBy w177 (some go174) := (by rw [hw]; exact HP176.2); have hp_ : Kd.R Kd.bool 4 w177 w.heap.size (fun _ => True) (.slice (some ⟨go174, 0, none⟩) x39_5.length co175) y462 := (by rw [hw, Ny462.out]; exact HP176.1); clear HP176; have n0_ := Aside0.mk (Kd.R_over' (v := (.slice (some ⟨go174, 0, none⟩) x39_5.length co175)) (by (with_reducible repeat (first | apply Kd.R_alloc | apply Kd.R_drewN | apply Kd.R_drew)); exact HO_23.out) (Kd.R_typed HO_39.out) (by decide) hg); have n1_ := Aside0.mk (hp_); have n2_ := Aside0.mk (blk_grown (g := gb404) (o := .cells #[.int .i64 t399, .int .i64 t400] 45 (0, 0)) bk_ hg (Kd.R_ne HO_39.out BK404.out (by decide))); have n3_ := Aside0.mk (blk_grown (g := gb405) (o := .cells #[.int .i64 t401, .int .i64 t402] 45 (0, 0)) bk_ hg (Kd.R_ne HO_39.out BK405.out (by decide))); have n4_ := Aside0.mk ((by rw [hw]; exact below_set (HB.out) GB174.out : Below w.heap.size w w177)); clear HO_23; clear HO_39; clear BK404; clear BK405; clear HB; have HO_23 := n0_; have HO_39 := n1_; have BK404 := n2_; have BK405 := n3_; have HB := n4_; clear n0_ n1_ n2_ n3_ n4_; clear hg hw hp_))
                           go_roundg kj152
                           case measure => have := HJ15.out; have := HJ85.out; have := HJ122.out; have := HJ135.out; have := HK5.out; have := HJ152.out; omega
                           case rel => exact ⟨(y462), (wrap64 (x40_5 + 1)), (wrap64 (x41_5 + 1)), (by first | rfl | (simp; done) | (simp [*]; done)), (by first | rfl | (simp; done) | (simp [*]; done)), H', ⟨by have := HJ15.out; have := HJ85.out; have := HJ122.out; have := HJ135.out; have := HK5.out; have := HJ152.out; omega⟩, ⟨by (with_reducible repeat (first | apply Kd.R_alloc | apply Kd.R_drewN | apply Kd.R_drew)); exact HO_23.out⟩, ⟨by (with_reducible repeat (first | apply Kd.R_alloc | apply Kd.R_drewN | apply Kd.R_drew)); exact HO_39.out⟩, ⟨bk_⟩, ⟨bk_⟩, ⟨bw_⟩⟩
                         ·
                          rw [if_neg c170] at H
                          exact absurd H (by simp)
                        ·
                         rw [if_neg c169] at H
                         exact absurd H (by simp)
                       ·
                        rw [if_neg c168] at H
                        have c168b0 : (t456 == t458) = false := beq_eq_false_iff_ne.mpr c168
                        have c168b1 : (t456 != t458) = true := bne_iff_ne.mpr c168
                        have H' := Aside0.mk H
                        clear H
                        go_wp2
                        go_roundg kj152
                        case measure => have := HJ15.out; have := HJ85.out; have := HJ122.out; have := HJ135.out; have := HK5.out; have := HJ152.out; omega
                        case rel => exact ⟨(x39_5), (x40_5), (wrap64 (x41_5 + 1)), (by first | rfl | (simp; done) | (simp [*]; done)), (by first | rfl | (simp; done) | (simp [*]; done)), H', ⟨by have := HJ15.out; have := HJ85.out; have := HJ122.out; have := HJ135.out; have := HK5.out; have := HJ152.out; omega⟩, ⟨by (with_reducible repeat (first | apply Kd.R_alloc | apply Kd.R_drewN | apply Kd.R_drew)); exact HO_23.out⟩, ⟨by (with_reducible repeat (first | apply Kd.R_alloc | apply Kd.R_drewN | apply Kd.R_drew)); exact HO_39.out⟩, ⟨bk_⟩, ⟨bk_⟩, ⟨bw_⟩⟩
                   ·
                    rw [if_neg c150] at H
                    have c150b0 : decide (x41_5 < t451) = false := decide_eq_false c150
                    clear c150
                    by_cases c178 : x40_5 = (t424.length : Int)
                    ·
                     rw [if_pos c178] at H
                     have c178b0 : (x40_5 == (t424.length : Int)) = true := beq_iff_eq.mpr c178
                     have c178b1 : (x40_5 != (t424.length : Int)) = false := bne_eq_false_iff_eq.mpr c178
                     clear c178
                     have H' := Aside0.mk H
                     clear H
                     obtain ⟨Ao179, co179, eo179⟩ := Kd.R_slice HO_23.out
                     subst eo179
                     go_wp2
                     go_meet
                     case rel => exact ⟨_, H', ⟨by have := HJ15.out; have := HJ85.out; have := HJ122.out; have := HJ135.out; have := HK5.out; first | omega | exact Nat.le_refl _⟩, ⟨bk_⟩, ⟨bk_⟩, ⟨bw_⟩⟩
                    ·
                     rw [if_neg c178] at H
                     have c178b0 : (x40_5 == (t424.length : Int)) = false := beq_eq_false_iff_ne.mpr c178
                     have c178b1 : (x40_5 != (t424.length : Int)) = true := bne_iff_ne.mpr c178
                     exact absurd ((Option.some.inj H).trans HRT.out) (by decide)
                ·
                 rw [if_neg c147] at H
                 exact absurd H (by simp)
               ·
                rw [if_neg c146] at H
                exact absurd H (by simp)
           ·
            replace c134 := Bool.eq_false_iff.mpr c134
            subst c134
            rw [if_neg (show ¬ (false = true) by decide)] at H
            have H' := Aside0.mk H
            clear H
            go_wp2
            go_meet
            case rel => exact ⟨_, H', ⟨by have := HJ15.out; have := HJ85.out; have := HJ122.out; first | omega | exact Nat.le_refl _⟩, ⟨bk_⟩, ⟨bk_⟩, ⟨bw_⟩⟩
          case rest => as_aux_lemma =>
           clear HC133
           (try clear c1); (try clear c4); (try clear c85); (try clear c132); (try clear hcz21_0); (try clear hcz21_1); (try clear hcz22_0); (try clear hcz22_1); (try clear hcz24_0); (try clear hcz24_1); (try clear hcz25_0); (try clear hcz25_1); (try clear hcz27_0); (try clear hcz27_1); (try clear hcz28_0); (try clear hcz28_1); (try clear hcz30_0); (try clear hcz30_1); (try clear hcz31_0); (try clear hcz31_1); (try clear hcz33_0); (try clear hcz33_1); (try clear hcz34_0); (try clear hcz34_1); (try clear hcz36_0); (try clear hcz36_1); (try clear hcz37_0); (try clear hcz37_1); (try clear hcz39_0); (try clear hcz39_1); (try clear hcz40_0); (try clear hcz40_1); (try clear hcz42_0); (try clear hcz42_1); (try clear hcz43_0); (try clear hcz43_1); (try clear hcz45_0); (try clear hcz45_1); (try clear hcz46_0); (try clear hcz46_1); (try clear hcz48_0); (try clear hcz48_1); (try clear hcz49_0); (try clear hcz49_1); (try clear hfz21_0); (try clear hfz21_1); (try clear hfz22_0); (try clear hfz22_1); (try clear hfz24_0); (try clear hfz24_1); (try clear hfz25_0); (try clear hfz25_1); (try clear hfz27_0); (try clear hfz27_1); (try clear hfz28_0); (try clear hfz28_1); (try clear hfz30_0); (try clear hfz30_1); (try clear hfz31_0); (try clear hfz31_1); (try clear hfz33_0); (try clear hfz33_1); (try clear hfz34_0); (try clear hfz34_1); (try clear hfz36_0); (try clear hfz36_1); (try clear hfz37_0); (try clear hfz37_1); (try clear hfz39_0); (try clear hfz39_1); (try clear hfz40_0); (try clear hfz40_1); (try clear hfz42_0); (try clear hfz42_1); (try clear hfz43_0); (try clear hfz43_1); (try clear hfz45_0); (try clear hfz45_1); (try clear hfz46_0); (try clear hfz46_1); (try clear hfz48_0); (try clear hfz48_1); (try clear hfz49_0); (try clear hfz49_1)
           obtain ⟨kq, HA, HJ132, BK404, BK405, HB⟩ := hcut
           cases kq with
           | zero => exact absurd HA.out (by simp [laws_FnRunnersMeet.j8])
           | succ kj132 =>
            have H := HA.out
            clear HA
            simp only [laws_FnRunnersMeet.j8] at H
            have HC180 := Aside0.mk H
            clear H
            go_upto_if 423 with (fail)
            go_cut [] from 424 to 521 (fun wc => ∃ (kq : Nat), Aside0 (laws_FnRunnersMeet.j11 kq l1 = some r) ∧ Aside0 (kq ≤ kj132) ∧ Aside0 (wc.heap[gb404]? = some (.cells #[.int .i64 t399, .int .i64 t400] 45 (0, 0))) ∧ Aside0 (wc.heap[gb405]? = some (.cells #[.int .i64 t401, .int .i64 t402] 45 (0, 0))) ∧ Aside0 (Below w.heap.size w wc))
            case first => as_aux_lemma =>
             have H := HC180.out
             clear HC180
             by_cases c181 : t433 = true
             ·
              subst c181
              rw [if_pos rfl] at H
              replace H := Option.bind_eq_some_iff.mp H
              obtain ⟨⟨t463, t464⟩, A1820, H⟩ := H
              (try dsimp only at H)
              have A182 := Aside0.mk A1820
              clear A1820
              replace H := Option.bind_eq_some_iff.mp H
              obtain ⟨⟨t465, t466⟩, A1830, H⟩ := H
              (try dsimp only at H)
              have A183 := Aside0.mk A1830
              clear A1830
              have HC184 := Aside0.mk H
              clear H
              have hnb185 := NB405_404.out
              have hnc185 := NB404_405.out
              have hcz186_0 : wc.cell? ⟨gb405, 0, none⟩ = some (.int .i64 t401) := (blk_cell BK405.out 0).trans rfl
              have hcz186_1 : wc.cell? ⟨gb405, 1, none⟩ = some (.int .i64 t402) := (blk_cell BK405.out 1).trans rfl
              have hfz186_0 := blk_frozen BK405.out 0
              have hfz186_1 := blk_frozen BK405.out 1
              have hcz187_0 : wc.cell? ⟨gb404, 0, none⟩ = some (.int .i64 t399) := (blk_cell BK404.out 0).trans rfl
              have hcz187_1 : wc.cell? ⟨gb404, 1, none⟩ = some (.int .i64 t400) := (blk_cell BK404.out 1).trans rfl
              have hfz187_0 := blk_frozen BK404.out 0
              have hfz187_1 := blk_frozen BK404.out 1
              go_upto_region 50 with (first | ((with_reducible refine gate_callee (f := 30) rfl ?_); refine goesL_ (some 429) rfl rfl Try.func30 (by kernel_rfl) rfl #[.int .i64 t398, .agg #[.int .i64 t401, .int .i64 t402], .agg #[.int .i64 t399, .int .i64 t400], .int .i64 t403] rfl (by (try simp only [List.map_toArray, List.map_cons, List.map_nil]); first | done | rfl | (simp only [List.length_drop, List.length_take]; rfl)) ?_; (with_reducible refine (impl_LeadBetween.calls kj132 t398 t401 t402 t399 t400 t403 t463 t464 _ A182.out).mono ?_); rintro e w188 ⟨rfl, hb⟩; refine ⟨_, rfl, ?_⟩; have n0_ := Aside0.mk (blk_below (g := gb404) (o := .cells #[.int .i64 t399, .int .i64 t400] 45 (0, 0)) bk_ hb); have n1_ := Aside0.mk (blk_below (g := gb405) (o := .cells #[.int .i64 t401, .int .i64 t402] 45 (0, 0)) bk_ hb); have n2_ := Aside0.mk (below_step bw_ hb); clear BK404; clear BK405; clear HB; have BK404 := n0_; have BK405 := n1_; have HB := n2_; clear n0_ n1_ n2_; (try clear hb); (try clear hb2); (try clear hk); (try clear hi); have hcz189_0 : w188.cell? ⟨gb404, 0, none⟩ = some (.int .i64 t399) := (blk_cell BK404.out 0).trans rfl; have hcz189_1 : w188.cell? ⟨gb404, 1, none⟩ = some (.int .i64 t400) := (blk_cell BK404.out 1).trans rfl; have hfz189_0 := blk_frozen BK404.out 0; have hfz189_1 := blk_frozen BK404.out 1; have hcz190_0 : w188.cell? ⟨gb405, 0, none⟩ = some (.int .i64 t401) := (blk_cell BK405.out 0).trans rfl; have hcz190_1 : w188.cell? ⟨gb405, 1, none⟩ = some (.int .i64 t402) := (blk_cell BK405.out 1).trans rfl; have hfz190_0 := blk_frozen BK405.out 0; have hfz190_1 := blk_frozen BK405.out 1) | ((with_reducible refine gate_callee (f := 30) rfl ?_); refine goesL_ (some 436) rfl rfl Try.func30 (by kernel_rfl) rfl #[.int .i64 t398, .agg #[.int .i64 t399, .int .i64 t400], .agg #[.int .i64 t401, .int .i64 t402], .int .i64 0] rfl (by (try simp only [List.map_toArray, List.map_cons, List.map_nil]); first | done | rfl | (simp only [List.length_drop, List.length_take]; rfl)) ?_; (with_reducible refine (impl_LeadBetween.calls kj132 t398 t399 t400 t401 t402 0 t465 t466 _ A183.out).mono ?_); rintro e w191 ⟨rfl, hb⟩; refine ⟨_, rfl, ?_⟩; have n0_ := Aside0.mk (blk_below (g := gb404) (o := .cells #[.int .i64 t399, .int .i64 t400] 45 (0, 0)) bk_ hb); have n1_ := Aside0.mk (blk_below (g := gb405) (o := .cells #[.int .i64 t401, .int .i64 t402] 45 (0, 0)) bk_ hb); have n2_ := Aside0.mk (below_step bw_ hb); clear BK404; clear BK405; clear HB; have BK404 := n0_; have BK405 := n1_; have HB := n2_; clear n0_ n1_ n2_; (try clear hb); (try clear hb2); (try clear hk); (try clear hi)))
              (try simp only [Act.put, List.setIfInBounds_toArray, List.set_cons_zero, List.set_cons_succ])
              go_cut [463] from 439 to 463 (fun v463 wc => ∃ (kq : Nat) (x463_183 : Bool), v463 = .bool x463_183 ∧ Aside0 (laws_FnRunnersMeet.j9 kq l1 t398 t414 t432 t465 x463_183 t399 t400 t401 t402 = some r) ∧ Aside0 (kq ≤ kj132) ∧ Aside0 (wc.heap[gb404]? = some (.cells #[.int .i64 t399, .int .i64 t400] 45 (0, 0))) ∧ Aside0 (wc.heap[gb405]? = some (.cells #[.int .i64 t401, .int .i64 t402] 45 (0, 0))) ∧ Aside0 (Below w.heap.size w wc))
              case first => as_aux_lemma =>
               have H := HC184.out
               clear HC184
               by_cases c192 : t464 = true
               ·
                subst c192
                rw [if_pos rfl] at H
                by_cases c193 : t463 = (wrap64 (-t432))
                ·
                 rw [if_pos c193] at H
                 have c193b0 : (t463 == (wrap64 (-t432))) = true := beq_iff_eq.mpr c193
                 have c193b1 : (t463 != (wrap64 (-t432))) = false := bne_eq_false_iff_eq.mpr c193
                 clear c193
                 (first | rw [c193b0] | (simp only [i64_w, i32_w]; rw [c193b0]) | skip)
                 by_cases c194 : t466 = true
                 ·
                  subst c194
                  rw [if_pos rfl] at H
                  have H' := Aside0.mk H
                  clear H
                  have hnb195 := NB404_405.out
                  have hnc195 := NB405_404.out
                  have hcz196_0 : w191.cell? ⟨gb404, 0, none⟩ = some (.int .i64 t399) := (blk_cell BK404.out 0).trans rfl
                  have hcz196_1 : w191.cell? ⟨gb404, 1, none⟩ = some (.int .i64 t400) := (blk_cell BK404.out 1).trans rfl
                  have hfz196_0 := blk_frozen BK404.out 0
                  have hfz196_1 := blk_frozen BK404.out 1
                  have hcz197_0 : w191.cell? ⟨gb405, 0, none⟩ = some (.int .i64 t401) := (blk_cell BK405.out 0).trans rfl
                  have hcz197_1 : w191.cell? ⟨gb405, 1, none⟩ = some (.int .i64 t402) := (blk_cell BK405.out 1).trans rfl
                  have hfz197_0 := blk_frozen BK405.out 0
                  have hfz197_1 := blk_frozen BK405.out 1
                  go_wp2
                  go_meet
                  case rel => exact ⟨_, ((t432 != (wrap64 (t465 + (wrap64 ((wrap64 (t400 - t402)) * t403)))))), (by first | rfl | (simp; done) | (simp [*]; done)), H', ⟨by have := HJ15.out; have := HJ85.out; have := HJ122.out; have := HJ132.out; first | omega | exact Nat.le_refl _⟩, ⟨bk_⟩, ⟨bk_⟩, ⟨bw_⟩⟩
                 ·
                  replace c194 := Bool.eq_false_iff.mpr c194
                  subst c194
                  rw [if_neg (show ¬ (false = true) by decide)] at H
                  exact absurd (H.trans (congrArg some HRT.out)) (by cases kj132 <;> simp [laws_FnRunnersMeet.j9])
                ·
                 rw [if_neg c193] at H
                 have c193b0 : (t463 == (wrap64 (-t432))) = false := beq_eq_false_iff_ne.mpr c193
                 have c193b1 : (t463 != (wrap64 (-t432))) = true := bne_iff_ne.mpr c193
                 (first | rw [c193b0] | (simp only [i64_w, i32_w]; rw [c193b0]) | skip)
                 exact absurd (H.trans (congrArg some HRT.out)) (by cases kj132 <;> simp [laws_FnRunnersMeet.j9])
               ·
                replace c192 := Bool.eq_false_iff.mpr c192
                subst c192
                rw [if_neg (show ¬ (false = true) by decide)] at H
                exact absurd (H.trans (congrArg some HRT.out)) (by cases kj132 <;> simp [laws_FnRunnersMeet.j9])
              case rest => as_aux_lemma =>
               clear HC184
               (try clear c1); (try clear c4); (try clear c85); (try clear c132); (try clear c181); (try clear hcz186_0); (try clear hcz186_1); (try clear hcz187_0); (try clear hcz187_1); (try clear hcz189_0); (try clear hcz189_1); (try clear hcz190_0); (try clear hcz190_1); (try clear hcz21_0); (try clear hcz21_1); (try clear hcz22_0); (try clear hcz22_1); (try clear hcz24_0); (try clear hcz24_1); (try clear hcz25_0); (try clear hcz25_1); (try clear hcz27_0); (try clear hcz27_1); (try clear hcz28_0); (try clear hcz28_1); (try clear hcz30_0); (try clear hcz30_1); (try clear hcz31_0); (try clear hcz31_1); (try clear hcz33_0); (try clear hcz33_1); (try clear hcz34_0); (try clear hcz34_1); (try clear hcz36_0); (try clear hcz36_1); (try clear hcz37_0); (try clear hcz37_1); (try clear hcz39_0); (try clear hcz39_1); (try clear hcz40_0); (try clear hcz40_1); (try clear hcz42_0); (try clear hcz42_1); (try clear hcz43_0); (try clear hcz43_1); (try clear hcz45_0); (try clear hcz45_1); (try clear hcz46_0); (try clear hcz46_1); (try clear hcz48_0); (try clear hcz48_1); (try clear hcz49_0); (try clear hcz49_1); (try clear hfz186_0); (try clear hfz186_1); (try clear hfz187_0); (try clear hfz187_1); (try clear hfz189_0); (try clear hfz189_1); (try clear hfz190_0); (try clear hfz190_1); (try clear hfz21_0); (try clear hfz21_1); (try clear hfz22_0); (try clear hfz22_1); (try clear hfz24_0); (try clear hfz24_1); (try clear hfz25_0); (try clear hfz25_1); (try clear hfz27_0); (try clear hfz27_1); (try clear hfz28_0); (try clear hfz28_1); (try clear hfz30_0); (try clear hfz30_1); (try clear hfz31_0); (try clear hfz31_1); (try clear hfz33_0); (try clear hfz33_1); (try clear hfz34_0); (try clear hfz34_1); (try clear hfz36_0); (try clear hfz36_1); (try clear hfz37_0); (try clear hfz37_1); (try clear hfz39_0); (try clear hfz39_1); (try clear hfz40_0); (try clear hfz40_1); (try clear hfz42_0); (try clear hfz42_1); (try clear hfz43_0); (try clear hfz43_1); (try clear hfz45_0); (try clear hfz45_1); (try clear hfz46_0); (try clear hfz46_1); (try clear hfz48_0); (try clear hfz48_1); (try clear hfz49_0); (try clear hfz49_1)
               obtain ⟨kq, x463_183, rfl, HA, HJ183, BK404, BK405, HB⟩ := hcut
               cases kq with
               | zero => exact absurd HA.out (by simp [laws_FnRunnersMeet.j9])
               | succ kj183 =>
                have H := HA.out
                clear HA
                simp only [laws_FnRunnersMeet.j9] at H
                by_cases c198 : x463_183 = true
                ·
                 subst c198
                 rw [if_pos rfl] at H
                 exact absurd ((Option.some.inj H).trans HRT.out) (by decide)
                ·
                 replace c198 := Bool.eq_false_iff.mpr c198
                 subst c198
                 rw [if_neg (show ¬ (false = true) by decide)] at H
                 have H' := Aside0.mk H
                 clear H
                 go_wp2
                 go_loopg [50, 51] kj183 (fun kq v50 v51 w' => ∃ (x50_6 : Int) (x51_6 : Int), v50 = .int .i64 x50_6 ∧ v51 = .int .i64 x51_6 ∧ Aside0 (laws_FnRunnersMeet.l2 kq l1 t398 t414 t432 t465 x50_6 x51_6 t399 t400 t401 t402 = some r) ∧ Aside0 (kq ≤ kj183) ∧ Aside0 (w'.heap[gb404]? = some (.cells #[.int .i64 t399, .int .i64 t400] 45 (0, 0))) ∧ Aside0 (w'.heap[gb405]? = some (.cells #[.int .i64 t401, .int .i64 t402] 45 (0, 0))) ∧ Aside0 (Below w.heap.size w w'))
                 case atStart => exact ⟨(0), ((-1)), (by first | rfl | (simp; done) | (simp [*]; done)), (by first | rfl | (simp; done) | (simp [*]; done)), H', ⟨Nat.le_refl _⟩, ⟨bk_⟩, ⟨bk_⟩, ⟨bw_⟩⟩
                 case round => as_aux_lemma =>
                  clear H'
                  (try clear c1); (try clear c4); (try clear c85); (try clear c132); (try clear c181); (try clear c198); (try clear hcz186_0); (try clear hcz186_1); (try clear hcz187_0); (try clear hcz187_1); (try clear hcz189_0); (try clear hcz189_1); (try clear hcz190_0); (try clear hcz190_1); (try clear hcz21_0); (try clear hcz21_1); (try clear hcz22_0); (try clear hcz22_1); (try clear hcz24_0); (try clear hcz24_1); (try clear hcz25_0); (try clear hcz25_1); (try clear hcz27_0); (try clear hcz27_1); (try clear hcz28_0); (try clear hcz28_1); (try clear hcz30_0); (try clear hcz30_1); (try clear hcz31_0); (try clear hcz31_1); (try clear hcz33_0); (try clear hcz33_1); (try clear hcz34_0); (try clear hcz34_1); (try clear hcz36_0); (try clear hcz36_1); (try clear hcz37_0); (try clear hcz37_1); (try clear hcz39_0); (try clear hcz39_1); (try clear hcz40_0); (try clear hcz40_1); (try clear hcz42_0); (try clear hcz42_1); (try clear hcz43_0); (try clear hcz43_1); (try clear hcz45_0); (try clear hcz45_1); (try clear hcz46_0); (try clear hcz46_1); (try clear hcz48_0); (try clear hcz48_1); (try clear hcz49_0); (try clear hcz49_1); (try clear hfz186_0); (try clear hfz186_1); (try clear hfz187_0); (try clear hfz187_1); (try clear hfz189_0); (try clear hfz189_1); (try clear hfz190_0); (try clear hfz190_1); (try clear hfz21_0); (try clear hfz21_1); (try clear hfz22_0); (try clear hfz22_1); (try clear hfz24_0); (try clear hfz24_1); (try clear hfz25_0); (try clear hfz25_1); (try clear hfz27_0); (try clear hfz27_1); (try clear hfz28_0); (try clear hfz28_1); (try clear hfz30_0); (try clear hfz30_1); (try clear hfz31_0); (try clear hfz31_1); (try clear hfz33_0); (try clear hfz33_1); (try clear hfz34_0); (try clear hfz34_1); (try clear hfz36_0); (try clear hfz36_1); (try clear hfz37_0); (try clear hfz37_1); (try clear hfz39_0); (try clear hfz39_1); (try clear hfz40_0); (try clear hfz40_1); (try clear hfz42_0); (try clear hfz42_1); (try clear hfz43_0); (try clear hfz43_1); (try clear hfz45_0); (try clear hfz45_1); (try clear hfz46_0); (try clear hfz46_1); (try clear hfz48_0); (try clear hfz48_1); (try clear hfz49_0); (try clear hfz49_1)
                  obtain ⟨x50_6, x51_6, rfl, rfl, HA, HK6, BK404, BK405, HB⟩ := hrel
                  cases gk with
                  | zero => exact absurd HA.out (by simp [laws_FnRunnersMeet.l2])
                  | succ k6 =>
                   have H := HA.out
                   clear HA
                   simp only [laws_FnRunnersMeet.l2] at H
                   by_cases c199 : x51_6 ≤ 1
                   ·
                    rw [if_pos c199] at H
                    have c199b0 : decide (x51_6 ≤ 1) = true := decide_eq_true c199
                    clear c199
                    by_cases c200 : t465 ≤ (wrap64 (x51_6 * t398))
                    ·
                     rw [if_pos c200] at H
                     have c200b0 : decide (t465 ≤ (wrap64 (x51_6 * t398))) = true := decide_eq_true c200
                     clear c200
                     by_cases c201 : t432 > (wrap64 (x51_6 * t398))
                     ·
                      rw [if_pos c201] at H
                      have c201b0 : decide ((wrap64 (x51_6 * t398)) < t432) = true := decide_eq_true c201
                      clear c201
                      have H' := Aside0.mk H
                      clear H
                      go_wp2
                      go_roundg k6
                      case measure => have := HJ15.out; have := HJ85.out; have := HJ122.out; have := HJ132.out; have := HJ183.out; have := HK6.out; omega
                      case rel => exact ⟨(wrap64 (x50_6 + 1)), (wrap64 (x51_6 + 1)), (by first | rfl | (simp; done) | (simp [*]; done)), (by first | rfl | (simp; done) | (simp [*]; done)), H', ⟨by have := HJ15.out; have := HJ85.out; have := HJ122.out; have := HJ132.out; have := HJ183.out; have := HK6.out; omega⟩, ⟨bk_⟩, ⟨bk_⟩, ⟨bw_⟩⟩
                     ·
                      rw [if_neg c201] at H
                      have c201b0 : decide ((wrap64 (x51_6 * t398)) < t432) = false := decide_eq_false c201
                      clear c201
                      have H' := Aside0.mk H
                      clear H
                      go_wp2
                      go_roundg k6
                      case measure => have := HJ15.out; have := HJ85.out; have := HJ122.out; have := HJ132.out; have := HJ183.out; have := HK6.out; omega
                      case rel => exact ⟨(x50_6), (wrap64 (x51_6 + 1)), (by first | rfl | (simp; done) | (simp [*]; done)), (by first | rfl | (simp; done) | (simp [*]; done)), H', ⟨by have := HJ15.out; have := HJ85.out; have := HJ122.out; have := HJ132.out; have := HJ183.out; have := HK6.out; omega⟩, ⟨bk_⟩, ⟨bk_⟩, ⟨bw_⟩⟩
                    ·
                     rw [if_neg c200] at H
                     have c200b0 : decide (t465 ≤ (wrap64 (x51_6 * t398))) = false := decide_eq_false c200
                     clear c200
                     have H' := Aside0.mk H
                     clear H
                     go_wp2
                     go_roundg k6
                     case measure => have := HJ15.out; have := HJ85.out; have := HJ122.out; have := HJ132.out; have := HJ183.out; have := HK6.out; omega
                     case rel => exact ⟨(x50_6), (wrap64 (x51_6 + 1)), (by first | rfl | (simp; done) | (simp [*]; done)), (by first | rfl | (simp; done) | (simp [*]; done)), H', ⟨by have := HJ15.out; have := HJ85.out; have := HJ122.out; have := HJ132.out; have := HJ183.out; have := HK6.out; omega⟩, ⟨bk_⟩, ⟨bk_⟩, ⟨bw_⟩⟩
                   ·
                    rw [if_neg c199] at H
                    have c199b0 : decide (x51_6 ≤ 1) = false := decide_eq_false c199
                    clear c199
                    by_cases c202 : t414 < x50_6
                    ·
                     rw [if_pos c202] at H
                     have c202b0 : decide (t414 < x50_6) = true := decide_eq_true c202
                     clear c202
                     exact absurd ((Option.some.inj H).trans HRT.out) (by decide)
                    ·
                     rw [if_neg c202] at H
                     have c202b0 : decide (t414 < x50_6) = false := decide_eq_false c202
                     clear c202
                     by_cases c203 : t400 ≤ t402
                     ·
                      rw [if_pos c203] at H
                      have c203b0 : decide (t400 ≤ t402) = true := decide_eq_true c203
                      clear c203
                      by_cases c204 : t414 = 0
                      ·
                       rw [if_pos c204] at H
                       have c204b0 : (t414 == 0) = true := beq_iff_eq.mpr c204
                       have c204b1 : (t414 != 0) = false := bne_eq_false_iff_eq.mpr c204
                       clear c204
                       by_cases c205 : t432 ≤ t398
                       ·
                        rw [if_pos c205] at H
                        have c205b0 : decide (t432 ≤ t398) = true := decide_eq_true c205
                        clear c205
                        by_cases c206 : t414 = x50_6
                        ·
                         rw [if_pos c206] at H
                         have c206b0 : (t414 == x50_6) = true := beq_iff_eq.mpr c206
                         have c206b1 : (t414 != x50_6) = false := bne_eq_false_iff_eq.mpr c206
                         clear c206
                         by_cases c207 : t432 > t398
                         ·
                          rw [if_pos c207] at H
                          have c207b0 : decide (t398 < t432) = true := decide_eq_true c207
                          clear c207
                          by_cases c208 : t398 = 0
                          ·
                           rw [if_pos c208] at H
                           exact absurd H (by simp)
                          ·
                           rw [if_neg c208] at H
                           have c208b0 : (t398 == 0) = false := beq_eq_false_iff_ne.mpr c208
                           have c208b1 : (t398 != 0) = true := bne_iff_ne.mpr c208
                           by_cases c209 : t414 = (wrap64 ((wrap64 (x50_6 + (wrap64 (Int.tdiv (wrap64 (t432 - 1)) t398)))) - 1))
                           ·
                            rw [if_pos c209] at H
                            have c209b0 : (t414 == (wrap64 ((wrap64 (x50_6 + (wrap64 (Int.tdiv (wrap64 (t432 - 1)) t398)))) - 1))) = true := beq_iff_eq.mpr c209
                            have c209b1 : (t414 != (wrap64 ((wrap64 (x50_6 + (wrap64 (Int.tdiv (wrap64 (t432 - 1)) t398)))) - 1))) = false := bne_eq_false_iff_eq.mpr c209
                            clear c209
                            have H' := Aside0.mk H
                            clear H
                            have hnb210 := NB404_405.out
                            have hnc210 := NB405_404.out
                            have hcz211_0 : wr.cell? ⟨gb404, 0, none⟩ = some (.int .i64 t399) := (blk_cell BK404.out 0).trans rfl
                            have hcz211_1 : wr.cell? ⟨gb404, 1, none⟩ = some (.int .i64 t400) := (blk_cell BK404.out 1).trans rfl
                            have hfz211_0 := blk_frozen BK404.out 0
                            have hfz211_1 := blk_frozen BK404.out 1
                            have hcz212_0 : wr.cell? ⟨gb405, 0, none⟩ = some (.int .i64 t401) := (blk_cell BK405.out 0).trans rfl
                            have hcz212_1 : wr.cell? ⟨gb405, 1, none⟩ = some (.int .i64 t402) := (blk_cell BK405.out 1).trans rfl
                            have hfz212_0 := blk_frozen BK405.out 0
                            have hfz212_1 := blk_frozen BK405.out 1
                            go_wp2
                            go_meet
                            case rel => exact ⟨_, H', ⟨by have := HJ15.out; have := HJ85.out; have := HJ122.out; have := HJ132.out; have := HJ183.out; have := HK6.out; first | omega | exact Nat.le_refl _⟩, ⟨bk_⟩, ⟨bk_⟩, ⟨bw_⟩⟩
                           ·
                            rw [if_neg c209] at H
                            have c209b0 : (t414 == (wrap64 ((wrap64 (x50_6 + (wrap64 (Int.tdiv (wrap64 (t432 - 1)) t398)))) - 1))) = false := beq_eq_false_iff_ne.mpr c209
                            have c209b1 : (t414 != (wrap64 ((wrap64 (x50_6 + (wrap64 (Int.tdiv (wrap64 (t432 - 1)) t398)))) - 1))) = true := bne_iff_ne.mpr c209
                            exact absurd ((Option.some.inj H).trans HRT.out) (by decide)
                         ·
                          rw [if_neg c207] at H
                          have c207b0 : decide (t398 < t432) = false := decide_eq_false c207
                          clear c207
                          have H' := Aside0.mk H
                          clear H
                          have hnb213 := NB404_405.out
                          have hnc213 := NB405_404.out
                          have hcz214_0 : wr.cell? ⟨gb404, 0, none⟩ = some (.int .i64 t399) := (blk_cell BK404.out 0).trans rfl
                          have hcz214_1 : wr.cell? ⟨gb404, 1, none⟩ = some (.int .i64 t400) := (blk_cell BK404.out 1).trans rfl
                          have hfz214_0 := blk_frozen BK404.out 0
                          have hfz214_1 := blk_frozen BK404.out 1
                          have hcz215_0 : wr.cell? ⟨gb405, 0, none⟩ = some (.int .i64 t401) := (blk_cell BK405.out 0).trans rfl
                          have hcz215_1 : wr.cell? ⟨gb405, 1, none⟩ = some (.int .i64 t402) := (blk_cell BK405.out 1).trans rfl
                          have hfz215_0 := blk_frozen BK405.out 0
                          have hfz215_1 := blk_frozen BK405.out 1
                          go_wp2
                          go_meet
                          case rel => exact ⟨_, H', ⟨by have := HJ15.out; have := HJ85.out; have := HJ122.out; have := HJ132.out; have := HJ183.out; have := HK6.out; first | omega | exact Nat.le_refl _⟩, ⟨bk_⟩, ⟨bk_⟩, ⟨bw_⟩⟩
                        ·
                         rw [if_neg c206] at H
                         have c206b0 : (t414 == x50_6) = false := beq_eq_false_iff_ne.mpr c206
                         have c206b1 : (t414 != x50_6) = true := bne_iff_ne.mpr c206
                         exact absurd ((Option.some.inj H).trans HRT.out) (by decide)
                       ·
                        rw [if_neg c205] at H
                        have c205b0 : decide (t432 ≤ t398) = false := decide_eq_false c205
                        clear c205
                        by_cases c216 : t432 > t398
                        ·
                         rw [if_pos c216] at H
                         have c216b0 : decide (t398 < t432) = true := decide_eq_true c216
                         clear c216
                         by_cases c217 : t398 = 0
                         ·
                          rw [if_pos c217] at H
                          exact absurd H (by simp)
                         ·
                          rw [if_neg c217] at H
                          have c217b0 : (t398 == 0) = false := beq_eq_false_iff_ne.mpr c217
                          have c217b1 : (t398 != 0) = true := bne_iff_ne.mpr c217
                          by_cases c218 : t414 = (wrap64 ((wrap64 (x50_6 + (wrap64 (Int.tdiv (wrap64 (t432 - 1)) t398)))) - 1))
                          ·
                           rw [if_pos c218] at H
                           have c218b0 : (t414 == (wrap64 ((wrap64 (x50_6 + (wrap64 (Int.tdiv (wrap64 (t432 - 1)) t398)))) - 1))) = true := beq_iff_eq.mpr c218
                           have c218b1 : (t414 != (wrap64 ((wrap64 (x50_6 + (wrap64 (Int.tdiv (wrap64 (t432 - 1)) t398)))) - 1))) = false := bne_eq_false_iff_eq.mpr c218
                           clear c218
                           have H' := Aside0.mk H
                           clear H
                           have hnb219 := NB404_405.out
                           have hnc219 := NB405_404.out
                           have hcz220_0 : wr.cell? ⟨gb404, 0, none⟩ = some (.int .i64 t399) := (blk_cell BK404.out 0).trans rfl
                           have hcz220_1 : wr.cell? ⟨gb404, 1, none⟩ = some (.int .i64 t400) := (blk_cell BK404.out 1).trans rfl
                           have hfz220_0 := blk_frozen BK404.out 0
                           have hfz220_1 := blk_frozen BK404.out 1
                           have hcz221_0 : wr.cell? ⟨gb405, 0, none⟩ = some (.int .i64 t401) := (blk_cell BK405.out 0).trans rfl
                           have hcz221_1 : wr.cell? ⟨gb405, 1, none⟩ = some (.int .i64 t402) := (blk_cell BK405.out 1).trans rfl
                           have hfz221_0 := blk_frozen BK405.out 0
                           have hfz221_1 := blk_frozen BK405.out 1
                           go_wp2
                           go_meet
                           case rel => exact ⟨_, H', ⟨by have := HJ15.out; have := HJ85.out; have := HJ122.out; have := HJ132.out; have := HJ183.out; have := HK6.out; first | omega | exact Nat.le_refl _⟩, ⟨bk_⟩, ⟨bk_⟩, ⟨bw_⟩⟩
                          ·
                           rw [if_neg c218] at H
                           have c218b0 : (t414 == (wrap64 ((wrap64 (x50_6 + (wrap64 (Int.tdiv (wrap64 (t432 - 1)) t398)))) - 1))) = false := beq_eq_false_iff_ne.mpr c218
                           have c218b1 : (t414 != (wrap64 ((wrap64 (x50_6 + (wrap64 (Int.tdiv (wrap64 (t432 - 1)) t398)))) - 1))) = true := bne_iff_ne.mpr c218
                           exact absurd ((Option.some.inj H).trans HRT.out) (by decide)
                        ·
                         rw [if_neg c216] at H
                         have c216b0 : decide (t398 < t432) = false := decide_eq_false c216
                         clear c216
                         have H' := Aside0.mk H
                         clear H
                         have hnb222 := NB404_405.out
                         have hnc222 := NB405_404.out
                         have hcz223_0 : wr.cell? ⟨gb404, 0, none⟩ = some (.int .i64 t399) := (blk_cell BK404.out 0).trans rfl
                         have hcz223_1 : wr.cell? ⟨gb404, 1, none⟩ = some (.int .i64 t400) := (blk_cell BK404.out 1).trans rfl
                         have hfz223_0 := blk_frozen BK404.out 0
                         have hfz223_1 := blk_frozen BK404.out 1
                         have hcz224_0 : wr.cell? ⟨gb405, 0, none⟩ = some (.int .i64 t401) := (blk_cell BK405.out 0).trans rfl
                         have hcz224_1 : wr.cell? ⟨gb405, 1, none⟩ = some (.int .i64 t402) := (blk_cell BK405.out 1).trans rfl
                         have hfz224_0 := blk_frozen BK405.out 0
                         have hfz224_1 := blk_frozen BK405.out 1
                         go_wp2
                         go_meet
                         case rel => exact ⟨_, H', ⟨by have := HJ15.out; have := HJ85.out; have := HJ122.out; have := HJ132.out; have := HJ183.out; have := HK6.out; first | omega | exact Nat.le_refl _⟩, ⟨bk_⟩, ⟨bk_⟩, ⟨bw_⟩⟩
                      ·
                       rw [if_neg c204] at H
                       have c204b0 : (t414 == 0) = false := beq_eq_false_iff_ne.mpr c204
                       have c204b1 : (t414 != 0) = true := bne_iff_ne.mpr c204
                       exact absurd ((Option.some.inj H).trans HRT.out) (by decide)
                     ·
                      rw [if_neg c203] at H
                      have c203b0 : decide (t400 ≤ t402) = false := decide_eq_false c203
                      clear c203
                      by_cases c225 : t432 ≤ t398
                      ·
                       rw [if_pos c225] at H
                       have c225b0 : decide (t432 ≤ t398) = true := decide_eq_true c225
                       clear c225
                       by_cases c226 : t414 = x50_6
                       ·
                        rw [if_pos c226] at H
                        have c226b0 : (t414 == x50_6) = true := beq_iff_eq.mpr c226
                        have c226b1 : (t414 != x50_6) = false := bne_eq_false_iff_eq.mpr c226
                        clear c226
                        by_cases c227 : t432 > t398
                        ·
                         rw [if_pos c227] at H
                         have c227b0 : decide (t398 < t432) = true := decide_eq_true c227
                         clear c227
                         by_cases c228 : t398 = 0
                         ·
                          rw [if_pos c228] at H
                          exact absurd H (by simp)
                         ·
                          rw [if_neg c228] at H
                          have c228b0 : (t398 == 0) = false := beq_eq_false_iff_ne.mpr c228
                          have c228b1 : (t398 != 0) = true := bne_iff_ne.mpr c228
                          by_cases c229 : t414 = (wrap64 ((wrap64 (x50_6 + (wrap64 (Int.tdiv (wrap64 (t432 - 1)) t398)))) - 1))
                          ·
                           rw [if_pos c229] at H
                           have c229b0 : (t414 == (wrap64 ((wrap64 (x50_6 + (wrap64 (Int.tdiv (wrap64 (t432 - 1)) t398)))) - 1))) = true := beq_iff_eq.mpr c229
                           have c229b1 : (t414 != (wrap64 ((wrap64 (x50_6 + (wrap64 (Int.tdiv (wrap64 (t432 - 1)) t398)))) - 1))) = false := bne_eq_false_iff_eq.mpr c229
                           clear c229
                           have H' := Aside0.mk H
                           clear H
                           have hnb230 := NB404_405.out
                           have hnc230 := NB405_404.out
                           have hcz231_0 : wr.cell? ⟨gb404, 0, none⟩ = some (.int .i64 t399) := (blk_cell BK404.out 0).trans rfl
                           have hcz231_1 : wr.cell? ⟨gb404, 1, none⟩ = some (.int .i64 t400) := (blk_cell BK404.out 1).trans rfl
                           have hfz231_0 := blk_frozen BK404.out 0
                           have hfz231_1 := blk_frozen BK404.out 1
                           have hcz232_0 : wr.cell? ⟨gb405, 0, none⟩ = some (.int .i64 t401) := (blk_cell BK405.out 0).trans rfl
                           have hcz232_1 : wr.cell? ⟨gb405, 1, none⟩ = some (.int .i64 t402) := (blk_cell BK405.out 1).trans rfl
                           have hfz232_0 := blk_frozen BK405.out 0
                           have hfz232_1 := blk_frozen BK405.out 1
                           go_wp2
                           go_meet
                           case rel => exact ⟨_, H', ⟨by have := HJ15.out; have := HJ85.out; have := HJ122.out; have := HJ132.out; have := HJ183.out; have := HK6.out; first | omega | exact Nat.le_refl _⟩, ⟨bk_⟩, ⟨bk_⟩, ⟨bw_⟩⟩
                          ·
                           rw [if_neg c229] at H
                           have c229b0 : (t414 == (wrap64 ((wrap64 (x50_6 + (wrap64 (Int.tdiv (wrap64 (t432 - 1)) t398)))) - 1))) = false := beq_eq_false_iff_ne.mpr c229
                           have c229b1 : (t414 != (wrap64 ((wrap64 (x50_6 + (wrap64 (Int.tdiv (wrap64 (t432 - 1)) t398)))) - 1))) = true := bne_iff_ne.mpr c229
                           exact absurd ((Option.some.inj H).trans HRT.out) (by decide)
                        ·
                         rw [if_neg c227] at H
                         have c227b0 : decide (t398 < t432) = false := decide_eq_false c227
                         clear c227
                         have H' := Aside0.mk H
                         clear H
                         have hnb233 := NB404_405.out
                         have hnc233 := NB405_404.out
                         have hcz234_0 : wr.cell? ⟨gb404, 0, none⟩ = some (.int .i64 t399) := (blk_cell BK404.out 0).trans rfl
                         have hcz234_1 : wr.cell? ⟨gb404, 1, none⟩ = some (.int .i64 t400) := (blk_cell BK404.out 1).trans rfl
                         have hfz234_0 := blk_frozen BK404.out 0
                         have hfz234_1 := blk_frozen BK404.out 1
                         have hcz235_0 : wr.cell? ⟨gb405, 0, none⟩ = some (.int .i64 t401) := (blk_cell BK405.out 0).trans rfl
                         have hcz235_1 : wr.cell? ⟨gb405, 1, none⟩ = some (.int .i64 t402) := (blk_cell BK405.out 1).trans rfl
                         have hfz235_0 := blk_frozen BK405.out 0
                         have hfz235_1 := blk_frozen BK405.out 1
                         go_wp2
                         go_meet
                         case rel => exact ⟨_, H', ⟨by have := HJ15.out; have := HJ85.out; have := HJ122.out; have := HJ132.out; have := HJ183.out; have := HK6.out; first | omega | exact Nat.le_refl _⟩, ⟨bk_⟩, ⟨bk_⟩, ⟨bw_⟩⟩
                       ·
                        rw [if_neg c226] at H
                        have c226b0 : (t414 == x50_6) = false := beq_eq_false_iff_ne.mpr c226
                        have c226b1 : (t414 != x50_6) = true := bne_iff_ne.mpr c226
                        exact absurd ((Option.some.inj H).trans HRT.out) (by decide)
                      ·
                       rw [if_neg c225] at H
                       have c225b0 : decide (t432 ≤ t398) = false := decide_eq_false c225
                       clear c225
                       by_cases c236 : t432 > t398
                       ·
                        rw [if_pos c236] at H
                        have c236b0 : decide (t398 < t432) = true := decide_eq_true c236
                        clear c236
                        by_cases c237 : t398 = 0
                        ·
                         rw [if_pos c237] at H
                         exact absurd H (by simp)
                        ·
                         rw [if_neg c237] at H
                         have c237b0 : (t398 == 0) = false := beq_eq_false_iff_ne.mpr c237
                         have c237b1 : (t398 != 0) = true := bne_iff_ne.mpr c237
                         by_cases c238 : t414 = (wrap64 ((wrap64 (x50_6 + (wrap64 (Int.tdiv (wrap64 (t432 - 1)) t398)))) - 1))
                         ·
                          rw [if_pos c238] at H
                          have c238b0 : (t414 == (wrap64 ((wrap64 (x50_6 + (wrap64 (Int.tdiv (wrap64 (t432 - 1)) t398)))) - 1))) = true := beq_iff_eq.mpr c238
                          have c238b1 : (t414 != (wrap64 ((wrap64 (x50_6 + (wrap64 (Int.tdiv (wrap64 (t432 - 1)) t398)))) - 1))) = false := bne_eq_false_iff_eq.mpr c238
                          clear c238
                          have H' := Aside0.mk H
                          clear H
                          have hnb239 := NB404_405.out
                          have hnc239 := NB405_404.out
                          have hcz240_0 : wr.cell? ⟨gb404, 0, none⟩ = some (.int .i64 t399) := (blk_cell BK404.out 0).trans rfl
                          have hcz240_1 : wr.cell? ⟨gb404, 1, none⟩ = some (.int .i64 t400) := (blk_cell BK404.out 1).trans rfl
                          have hfz240_0 := blk_frozen BK404.out 0
                          have hfz240_1 := blk_frozen BK404.out 1
                          have hcz241_0 : wr.cell? ⟨gb405, 0, none⟩ = some (.int .i64 t401) := (blk_cell BK405.out 0).trans rfl
                          have hcz241_1 : wr.cell? ⟨gb405, 1, none⟩ = some (.int .i64 t402) := (blk_cell BK405.out 1).trans rfl
                          have hfz241_0 := blk_frozen BK405.out 0
                          have hfz241_1 := blk_frozen BK405.out 1
                          go_wp2
                          go_meet
                          case rel => exact ⟨_, H', ⟨by have := HJ15.out; have := HJ85.out; have := HJ122.out; have := HJ132.out; have := HJ183.out; have := HK6.out; first | omega | exact Nat.le_refl _⟩, ⟨bk_⟩, ⟨bk_⟩, ⟨bw_⟩⟩
                         ·
                          rw [if_neg c238] at H
                          have c238b0 : (t414 == (wrap64 ((wrap64 (x50_6 + (wrap64 (Int.tdiv (wrap64 (t432 - 1)) t398)))) - 1))) = false := beq_eq_false_iff_ne.mpr c238
                          have c238b1 : (t414 != (wrap64 ((wrap64 (x50_6 + (wrap64 (Int.tdiv (wrap64 (t432 - 1)) t398)))) - 1))) = true := bne_iff_ne.mpr c238
                          exact absurd ((Option.some.inj H).trans HRT.out) (by decide)
                       ·
                        rw [if_neg c236] at H
                        have c236b0 : decide (t398 < t432) = false := decide_eq_false c236
                        clear c236
                        have H' := Aside0.mk H
                        clear H
                        have hnb242 := NB404_405.out
                        have hnc242 := NB405_404.out
                        have hcz243_0 : wr.cell? ⟨gb404, 0, none⟩ = some (.int .i64 t399) := (blk_cell BK404.out 0).trans rfl
                        have hcz243_1 : wr.cell? ⟨gb404, 1, none⟩ = some (.int .i64 t400) := (blk_cell BK404.out 1).trans rfl
                        have hfz243_0 := blk_frozen BK404.out 0
                        have hfz243_1 := blk_frozen BK404.out 1
                        have hcz244_0 : wr.cell? ⟨gb405, 0, none⟩ = some (.int .i64 t401) := (blk_cell BK405.out 0).trans rfl
                        have hcz244_1 : wr.cell? ⟨gb405, 1, none⟩ = some (.int .i64 t402) := (blk_cell BK405.out 1).trans rfl
                        have hfz244_0 := blk_frozen BK405.out 0
                        have hfz244_1 := blk_frozen BK405.out 1
                        go_wp2
                        go_meet
                        case rel => exact ⟨_, H', ⟨by have := HJ15.out; have := HJ85.out; have := HJ122.out; have := HJ132.out; have := HJ183.out; have := HK6.out; first | omega | exact Nat.le_refl _⟩, ⟨bk_⟩, ⟨bk_⟩, ⟨bw_⟩⟩
             ·
              replace c181 := Bool.eq_false_iff.mpr c181
              subst c181
              rw [if_neg (show ¬ (false = true) by decide)] at H
              have H' := Aside0.mk H
              clear H
              go_wp2
              go_meet
              case rel => exact ⟨_, H', ⟨by have := HJ15.out; have := HJ85.out; have := HJ122.out; have := HJ132.out; first | omega | exact Nat.le_refl _⟩, ⟨bk_⟩, ⟨bk_⟩, ⟨bw_⟩⟩
            case rest => as_aux_lemma =>
             clear HC180
             (try clear c1); (try clear c85); (try clear c132); (try clear hcz21_0); (try clear hcz21_1); (try clear hcz22_0); (try clear hcz22_1); (try clear hcz24_0); (try clear hcz24_1); (try clear hcz25_0); (try clear hcz25_1); (try clear hcz27_0); (try clear hcz27_1); (try clear hcz28_0); (try clear hcz28_1); (try clear hcz30_0); (try clear hcz30_1); (try clear hcz31_0); (try clear hcz31_1); (try clear hcz33_0); (try clear hcz33_1); (try clear hcz34_0); (try clear hcz34_1); (try clear hcz36_0); (try clear hcz36_1); (try clear hcz37_0); (try clear hcz37_1); (try clear hcz39_0); (try clear hcz39_1); (try clear hcz40_0); (try clear hcz40_1); (try clear hcz42_0); (try clear hcz42_1); (try clear hcz43_0); (try clear hcz43_1); (try clear hcz45_0); (try clear hcz45_1); (try clear hcz46_0); (try clear hcz46_1); (try clear hcz48_0); (try clear hcz48_1); (try clear hcz49_0); (try clear hcz49_1); (try clear hfz21_0); (try clear hfz21_1); (try clear hfz22_0); (try clear hfz22_1); (try clear hfz24_0); (try clear hfz24_1); (try clear hfz25_0); (try clear hfz25_1); (try clear hfz27_0); (try clear hfz27_1); (try clear hfz28_0); (try clear hfz28_1); (try clear hfz30_0); (try clear hfz30_1); (try clear hfz31_0); (try clear hfz31_1); (try clear hfz33_0); (try clear hfz33_1); (try clear hfz34_0); (try clear hfz34_1); (try clear hfz36_0); (try clear hfz36_1); (try clear hfz37_0); (try clear hfz37_1); (try clear hfz39_0); (try clear hfz39_1); (try clear hfz40_0); (try clear hfz40_1); (try clear hfz42_0); (try clear hfz42_1); (try clear hfz43_0); (try clear hfz43_1); (try clear hfz45_0); (try clear hfz45_1); (try clear hfz46_0); (try clear hfz46_1); (try clear hfz48_0); (try clear hfz48_1); (try clear hfz49_0); (try clear hfz49_1)
             obtain ⟨kq, HA, HJ179, BK404, BK405, HB⟩ := hcut
             cases kq with
             | zero => exact absurd HA.out (by simp [laws_FnRunnersMeet.j11])
             | succ kj179 =>
              have H := HA.out
              clear HA
              simp only [laws_FnRunnersMeet.j11] at H
              replace H := Option.bind_eq_some_iff.mp H
              obtain ⟨⟨t467, t468⟩, A2450, H⟩ := H
              (try dsimp only at H)
              have A245 := Aside0.mk A2450
              clear A2450
              replace H := Option.bind_eq_some_iff.mp H
              obtain ⟨⟨t471, t472⟩, A2460, H⟩ := H
              (try dsimp only at H)
              have A246 := Aside0.mk A2460
              clear A2460
              replace H := Option.bind_eq_some_iff.mp H
              obtain ⟨⟨t473, t474⟩, A2470, H⟩ := H
              (try dsimp only at H)
              have A247 := Aside0.mk A2470
              clear A2470
              replace H := Option.bind_eq_some_iff.mp H
              obtain ⟨⟨t475, t476⟩, A2480, H⟩ := H
              (try dsimp only at H)
              have A248 := Aside0.mk A2480
              clear A2480
              replace H := Option.bind_eq_some_iff.mp H
              obtain ⟨⟨t477, t478⟩, A2490, H⟩ := H
              (try dsimp only at H)
              have A249 := Aside0.mk A2490
              clear A2490
              have HC250 := Aside0.mk H
              clear H
              go_upto_region 65 with (first | ((with_reducible refine gate_callee (f := 44) rfl ?_); refine goesL_ (some 524) rfl rfl Try.func44 (by kernel_rfl) rfl #[.slice A1 l1.length c1] rfl (by (try simp only [List.map_toArray, List.map_cons, List.map_nil]); first | done | rfl | (simp only [List.length_drop, List.length_take]; rfl)) ?_; (with_reducible refine (spec_DrawAllRunnersTogether.calls kj179 _ _ l1 t467 t468 _ ?side1 ?side2 A245.out).mono ?_); (case side1 => repeat (first | exact (Kd.C_below HR1.out HB.out) | (with_reducible refine Kd.C_alloc ?_ _) | (with_reducible refine Kd.C_drewN ?_ _) | (with_reducible refine Kd.C_drew ?_))); (case side2 => exact HC1.out); rintro e w251 ⟨v469, rfl, ho0, hb⟩; refine ⟨_, rfl, ?_⟩; have n0_ := Aside0.mk (Kd.R_lower (Kd.R_newB (Kd.R_newB ho0 (g := gb404) (o := .cells #[.int .i64 t399, .int .i64 t400] 45 (0, 0)) bk_) (g := gb405) (o := .cells #[.int .i64 t401, .int .i64 t402] 45 (0, 0)) bk_) (below_size bw_)); have n1_ := Aside0.mk (blk_below (g := gb404) (o := .cells #[.int .i64 t399, .int .i64 t400] 45 (0, 0)) bk_ hb); have n2_ := Aside0.mk (blk_below (g := gb405) (o := .cells #[.int .i64 t401, .int .i64 t402] 45 (0, 0)) bk_ hb); have n3_ := Aside0.mk (below_step bw_ hb); clear BK404; clear BK405; clear HB; have HO470 := n0_; have BK404 := n1_; have BK405 := n2_; have HB := n3_; clear n0_ n1_ n2_ n3_; (try clear hb); (try clear hb2); (try clear hk); (try clear hi); (try clear ho0); obtain ⟨Ao252, co252, eo252⟩ := Kd.R_slice HO470.out; subst eo252) | ((with_reducible refine gate_callee (f := 37) rfl ?_); refine goesL_ (some 530) rfl rfl Try.func37 (by kernel_rfl) rfl #[.int .i64 t467, .slice Ao252 t468.length co252] rfl (by (try simp only [List.map_toArray, List.map_cons, List.map_nil]); first | done | rfl | (simp only [List.length_drop, List.length_take]; rfl)) ?_; (with_reducible refine (impl_AllRunnersTogether.calls kj179 t467 _ _ t468 t471 t472 _ ?side1 ?side2 A246.out).mono ?_); (case side1 => repeat (first | exact (Kd.R_reads' HO470.out).2.2 | (with_reducible refine Kd.C_alloc ?_ _) | (with_reducible refine Kd.C_drewN ?_ _) | (with_reducible refine Kd.C_drew ?_))); (case side2 => exact (Kd.R_reads' HO470.out).2.1); rintro e w253 ⟨rfl, hb⟩; refine ⟨_, rfl, ?_⟩; have n0_ := Aside0.mk (Kd.R_below (by (with_reducible repeat (first | apply Kd.R_alloc | apply Kd.R_drewN | apply Kd.R_drew)); exact HO470.out) hb); have n1_ := Aside0.mk (blk_below (g := gb404) (o := .cells #[.int .i64 t399, .int .i64 t400] 45 (0, 0)) bk_ hb); have n2_ := Aside0.mk (blk_below (g := gb405) (o := .cells #[.int .i64 t401, .int .i64 t402] 45 (0, 0)) bk_ hb); have n3_ := Aside0.mk (below_step bw_ hb); clear HO470; clear BK404; clear BK405; clear HB; have HO470 := n0_; have BK404 := n1_; have BK405 := n2_; have HB := n3_; clear n0_ n1_ n2_ n3_; (try clear hb); (try clear hb2); (try clear hk); (try clear hi)) | ((with_reducible refine gate_callee (f := 38) rfl ?_); refine goesL_ (some 536) rfl rfl Try.func38 (by kernel_rfl) rfl #[.int .i64 t467, .slice Ao252 t468.length co252] rfl (by (try simp only [List.map_toArray, List.map_cons, List.map_nil]); first | done | rfl | (simp only [List.length_drop, List.length_take]; rfl)) ?_; (with_reducible refine (spec_AllRunnersTogether.calls kj179 t467 _ _ t468 t473 t474 _ ?side1 ?side2 A247.out).mono ?_); (case side1 => repeat (first | exact (Kd.R_reads' HO470.out).2.2 | (with_reducible refine Kd.C_alloc ?_ _) | (with_reducible refine Kd.C_drewN ?_ _) | (with_reducible refine Kd.C_drew ?_))); (case side2 => exact (Kd.R_reads' HO470.out).2.1); rintro e w254 ⟨rfl, hb⟩; refine ⟨_, rfl, ?_⟩; have n0_ := Aside0.mk (Kd.R_below (by (with_reducible repeat (first | apply Kd.R_alloc | apply Kd.R_drewN | apply Kd.R_drew)); exact HO470.out) hb); have n1_ := Aside0.mk (blk_below (g := gb404) (o := .cells #[.int .i64 t399, .int .i64 t400] 45 (0, 0)) bk_ hb); have n2_ := Aside0.mk (blk_below (g := gb405) (o := .cells #[.int .i64 t401, .int .i64 t402] 45 (0, 0)) bk_ hb); have n3_ := Aside0.mk (below_step bw_ hb); clear HO470; clear BK404; clear BK405; clear HB; have HO470 := n0_; have BK404 := n1_; have BK405 := n2_; have HB := n3_; clear n0_ n1_ n2_ n3_; (try clear hb); (try clear hb2); (try clear hk); (try clear hi)) | ((with_reducible refine gate_callee (f := 36) rfl ?_); refine goesL_ (some 542) rfl rfl Try.func36 (by kernel_rfl) rfl #[.int .i64 t467, .slice Ao252 t468.length co252] rfl (by (try simp only [List.map_toArray, List.map_cons, List.map_nil]); first | done | rfl | (simp only [List.length_drop, List.length_take]; rfl)) ?_; (with_reducible refine (impl_RunPeriod.calls kj179 t467 _ _ t468 t475 t476 _ ?side1 ?side2 A248.out).mono ?_); (case side1 => repeat (first | exact (Kd.R_reads' HO470.out).2.2 | (with_reducible refine Kd.C_alloc ?_ _) | (with_reducible refine Kd.C_drewN ?_ _) | (with_reducible refine Kd.C_drew ?_))); (case side2 => exact (Kd.R_reads' HO470.out).2.1); rintro e w255 ⟨rfl, hb⟩; refine ⟨_, rfl, ?_⟩; have n0_ := Aside0.mk (Kd.R_below (by (with_reducible repeat (first | apply Kd.R_alloc | apply Kd.R_drewN | apply Kd.R_drew)); exact HO470.out) hb); have n1_ := Aside0.mk (blk_below (g := gb404) (o := .cells #[.int .i64 t399, .int .i64 t400] 45 (0, 0)) bk_ hb); have n2_ := Aside0.mk (blk_below (g := gb405) (o := .cells #[.int .i64 t401, .int .i64 t402] 45 (0, 0)) bk_ hb); have n3_ := Aside0.mk (below_step bw_ hb); clear HO470; clear BK404; clear BK405; clear HB; have HO470 := n0_; have BK404 := n1_; have BK405 := n2_; have HB := n3_; clear n0_ n1_ n2_ n3_; (try clear hb); (try clear hb2); (try clear hk); (try clear hi)) | ((with_reducible refine gate_callee (f := 39) rfl ?_); refine goesL_ (some 548) rfl rfl Try.func39 (by kernel_rfl) rfl #[.int .i64 t467, .slice Ao252 t468.length co252] rfl (by (try simp only [List.map_toArray, List.map_cons, List.map_nil]); first | done | rfl | (simp only [List.length_drop, List.length_take]; rfl)) ?_; (with_reducible refine (spec_RunPeriod.calls kj179 t467 _ _ t468 t477 t478 _ ?side1 ?side2 A249.out).mono ?_); (case side1 => repeat (first | exact (Kd.R_reads' HO470.out).2.2 | (with_reducible refine Kd.C_alloc ?_ _) | (with_reducible refine Kd.C_drewN ?_ _) | (with_reducible refine Kd.C_drew ?_))); (case side2 => exact (Kd.R_reads' HO470.out).2.1); rintro e w256 ⟨rfl, hb⟩; refine ⟨_, rfl, ?_⟩; have n0_ := Aside0.mk (Kd.R_below (by (with_reducible repeat (first | apply Kd.R_alloc | apply Kd.R_drewN | apply Kd.R_drew)); exact HO470.out) hb); have n1_ := Aside0.mk (blk_below (g := gb404) (o := .cells #[.int .i64 t399, .int .i64 t400] 45 (0, 0)) bk_ hb); have n2_ := Aside0.mk (blk_below (g := gb405) (o := .cells #[.int .i64 t401, .int .i64 t402] 45 (0, 0)) bk_ hb); have n3_ := Aside0.mk (below_step bw_ hb); clear HO470; clear BK404; clear BK405; clear HB; have HO470 := n0_; have BK404 := n1_; have BK405 := n2_; have HB := n3_; clear n0_ n1_ n2_ n3_; (try clear hb); (try clear hb2); (try clear hk); (try clear hi)))
              (try simp only [Act.put, List.setIfInBounds_toArray, List.set_cons_zero, List.set_cons_succ])
              go_cut [591] from 551 to 591 (fun v591 wc => ∃ (kq : Nat) (x591_249 : Bool), v591 = .bool x591_249 ∧ Aside0 (laws_FnRunnersMeet.j12 kq t467 t468 t471 t472 t475 t476 x591_249 = some r) ∧ Aside0 (kq ≤ kj179) ∧ Aside0 (Kd.R k45 45 wc w.heap.size (fun k_ => k_ ≠ gb404 ∧ k_ ≠ gb405) (.slice Ao252 t468.length co252) t468) ∧ Aside0 (wc.heap[gb404]? = some (.cells #[.int .i64 t399, .int .i64 t400] 45 (0, 0))) ∧ Aside0 (wc.heap[gb405]? = some (.cells #[.int .i64 t401, .int .i64 t402] 45 (0, 0))) ∧ Aside0 (Below w.heap.size w wc))
              case first => as_aux_lemma =>
               have H := HC250.out
               clear HC250
               by_cases c257 : (t472 != t474) = true
               ·
                rw [if_pos c257] at H
                have c257b0 : (t472 != t474) = true := c257
                (try (have c257b1 : decide (t472 = t474) = false := by simpa using c257))
                (try (have c257b2 : (t472 == t474) = false := by simpa using c257))
                (try (have c257b3 : ¬ (t472 = t474) := by simpa using c257))
                clear c257
                (first | rw [c257b0] | (simp only [i64_w, i32_w]; rw [c257b0]) | skip)
                exact absurd (H.trans (congrArg some HRT.out)) (by cases kj179 <;> simp [laws_FnRunnersMeet.j12])
               ·
                rw [if_neg c257] at H
                have c257b0 : (t472 != t474) = false := by simpa using c257
                (try (have c257b1 : decide (t472 = t474) = true := by simpa using c257))
                (try (have c257b2 : (t472 == t474) = true := by simpa using c257))
                clear c257
                (first | rw [c257b0] | (simp only [i64_w, i32_w]; rw [c257b0]) | skip)
                by_cases c258 : t471 = t473
                ·
                 rw [if_pos c258] at H
                 have c258b0 : (t471 == t473) = true := beq_iff_eq.mpr c258
                 have c258b1 : (t471 != t473) = false := bne_eq_false_iff_eq.mpr c258
                 clear c258
                 by_cases c259 : (t476 != t478) = true
                 ·
                  rw [if_pos c259] at H
                  have c259b0 : (t476 != t478) = true := c259
                  (try (have c259b1 : decide (t476 = t478) = false := by simpa using c259))
                  (try (have c259b2 : (t476 == t478) = false := by simpa using c259))
                  (try (have c259b3 : ¬ (t476 = t478) := by simpa using c259))
                  clear c259
                  exact absurd (H.trans (congrArg some HRT.out)) (by cases kj179 <;> simp [laws_FnRunnersMeet.j12])
                 ·
                  rw [if_neg c259] at H
                  have c259b0 : (t476 != t478) = false := by simpa using c259
                  (try (have c259b1 : decide (t476 = t478) = true := by simpa using c259))
                  (try (have c259b2 : (t476 == t478) = true := by simpa using c259))
                  clear c259
                  by_cases c260 : t475 = t477
                  ·
                   rw [if_pos c260] at H
                   have c260b0 : (t475 == t477) = true := beq_iff_eq.mpr c260
                   have c260b1 : (t475 != t477) = false := bne_eq_false_iff_eq.mpr c260
                   clear c260
                   replace H := Option.bind_eq_some_iff.mp H
                   obtain ⟨t479, A2610, H⟩ := H
                   (try dsimp only at H)
                   have A261 := Aside0.mk A2610
                   clear A2610
                   by_cases c262 : (t476 != t479) = true
                   ·
                    rw [if_pos c262] at H
                    have c262b0 : (t476 != t479) = true := c262
                    (try (have c262b1 : decide (t476 = t479) = false := by simpa using c262))
                    (try (have c262b2 : (t476 == t479) = false := by simpa using c262))
                    (try (have c262b3 : ¬ (t476 = t479) := by simpa using c262))
                    clear c262
                    exact absurd (H.trans (congrArg some HRT.out)) (by cases kj179 <;> simp [laws_FnRunnersMeet.j12])
                   ·
                    rw [if_neg c262] at H
                    have c262b0 : (t476 != t479) = false := by simpa using c262
                    (try (have c262b1 : decide (t476 = t479) = true := by simpa using c262))
                    (try (have c262b2 : (t476 == t479) = true := by simpa using c262))
                    clear c262
                    replace H := Option.bind_eq_some_iff.mp H
                    obtain ⟨t480, A2630, H⟩ := H
                    (try dsimp only at H)
                    have A263 := Aside0.mk A2630
                    have et480 : t479 = t480 := Option.some.inj (A261.out.symm.trans A263.out)
                    subst et480
                    clear A2630
                    replace H := Option.bind_eq_some_iff.mp H
                    obtain ⟨t481, A2640, H⟩ := H
                    (try dsimp only at H)
                    have A264 := Aside0.mk A2640
                    clear A2640
                    by_cases c265 : (t479 != t481) = true
                    ·
                     rw [if_pos c265] at H
                     have c265b0 : (t479 != t481) = true := c265
                     (try (have c265b1 : decide (t479 = t481) = false := by simpa using c265))
                     (try (have c265b2 : (t479 == t481) = false := by simpa using c265))
                     (try (have c265b3 : ¬ (t479 = t481) := by simpa using c265))
                     clear c265
                     exact absurd (H.trans (congrArg some HRT.out)) (by cases kj179 <;> simp [laws_FnRunnersMeet.j12])
                    ·
                     rw [if_neg c265] at H
                     have c265b0 : (t479 != t481) = false := by simpa using c265
                     (try (have c265b1 : decide (t479 = t481) = true := by simpa using c265))
                     (try (have c265b2 : (t479 == t481) = true := by simpa using c265))
                     clear c265
                     by_cases c266 : t472 = true
                     ·
                      subst c266
                      rw [if_pos rfl] at H
                      have H' := Aside0.mk H
                      clear H
                      go_wp2_with (first | (go_at_call 40; (with_reducible refine (impl_AreRunners.calls t467 _ _ t468 t479 _ ?side1 ?side2 A261.out).mono ?_); (case side1 => repeat (first | exact (Kd.R_reads' HO470.out).2.2 | (with_reducible refine Kd.C_alloc ?_ _) | (with_reducible refine Kd.C_drewN ?_ _) | (with_reducible refine Kd.C_drew ?_))); (case side2 => exact (Kd.R_reads' HO470.out).2.1); rintro e w267 ⟨rfl, hb⟩; have n0_ := Aside0.mk (Kd.R_below (by (with_reducible repeat (first | apply Kd.R_alloc | apply Kd.R_drewN | apply Kd.R_drew)); exact HO470.out) hb); have n1_ := Aside0.mk (blk_below (g := gb404) (o := .cells #[.int .i64 t399, .int .i64 t400] 45 (0, 0)) bk_ hb); have n2_ := Aside0.mk (blk_below (g := gb405) (o := .cells #[.int .i64 t401, .int .i64 t402] 45 (0, 0)) bk_ hb); have n3_ := Aside0.mk (below_step bw_ hb); clear HO470; clear BK404; clear BK405; clear HB; have HO470 := n0_; have BK404 := n1_; have BK405 := n2_; have HB := n3_; clear n0_ n1_ n2_ n3_; (try clear hb); (try clear hb2); (try clear hk); (try clear hi)) | (go_at_call 40; (with_reducible refine (impl_AreRunners.calls t467 _ _ t468 t479 _ ?side1 ?side2 A263.out).mono ?_); (case side1 => repeat (first | exact (Kd.R_reads' HO470.out).2.2 | (with_reducible refine Kd.C_alloc ?_ _) | (with_reducible refine Kd.C_drewN ?_ _) | (with_reducible refine Kd.C_drew ?_))); (case side2 => exact (Kd.R_reads' HO470.out).2.1); rintro e w268 ⟨rfl, hb⟩; have n0_ := Aside0.mk (Kd.R_below (by (with_reducible repeat (first | apply Kd.R_alloc | apply Kd.R_drewN | apply Kd.R_drew)); exact HO470.out) hb); have n1_ := Aside0.mk (blk_below (g := gb404) (o := .cells #[.int .i64 t399, .int .i64 t400] 45 (0, 0)) bk_ hb); have n2_ := Aside0.mk (blk_below (g := gb405) (o := .cells #[.int .i64 t401, .int .i64 t402] 45 (0, 0)) bk_ hb); have n3_ := Aside0.mk (below_step bw_ hb); clear HO470; clear BK404; clear BK405; clear HB; have HO470 := n0_; have BK404 := n1_; have BK405 := n2_; have HB := n3_; clear n0_ n1_ n2_ n3_; (try clear hb); (try clear hb2); (try clear hk); (try clear hi)) | (go_at_call 41; (with_reducible refine (spec_AreRunners.calls kj179 t467 _ _ t468 t481 _ ?side1 ?side2 A264.out).mono ?_); (case side1 => repeat (first | exact (Kd.R_reads' HO470.out).2.2 | (with_reducible refine Kd.C_alloc ?_ _) | (with_reducible refine Kd.C_drewN ?_ _) | (with_reducible refine Kd.C_drew ?_))); (case side2 => exact (Kd.R_reads' HO470.out).2.1); rintro e w269 ⟨rfl, hb⟩; have n0_ := Aside0.mk (Kd.R_below (by (with_reducible repeat (first | apply Kd.R_alloc | apply Kd.R_drewN | apply Kd.R_drew)); exact HO470.out) hb); have n1_ := Aside0.mk (blk_below (g := gb404) (o := .cells #[.int .i64 t399, .int .i64 t400] 45 (0, 0)) bk_ hb); have n2_ := Aside0.mk (blk_below (g := gb405) (o := .cells #[.int .i64 t401, .int .i64 t402] 45 (0, 0)) bk_ hb); have n3_ := Aside0.mk (below_step bw_ hb); clear HO470; clear BK404; clear BK405; clear HB; have HO470 := n0_; have BK404 := n1_; have BK405 := n2_; have HB := n3_; clear n0_ n1_ n2_ n3_; (try clear hb); (try clear hb2); (try clear hk); (try clear hi)))
                      go_meet
                      case rel => exact ⟨_, (!t476), (by first | rfl | (simp; done) | (simp [*]; done)), H', ⟨by have := HJ15.out; have := HJ85.out; have := HJ122.out; have := HJ132.out; have := HJ179.out; first | omega | exact Nat.le_refl _⟩, ⟨by (with_reducible repeat (first | apply Kd.R_alloc | apply Kd.R_drewN | apply Kd.R_drew)); exact Kd.R_mono HO470.out (fun _ hk => ⟨hk.1.2, hk.2⟩)⟩, ⟨bk_⟩, ⟨bk_⟩, ⟨bw_⟩⟩
                     ·
                      replace c266 := Bool.eq_false_iff.mpr c266
                      subst c266
                      rw [if_neg (show ¬ (false = true) by decide)] at H
                      have H' := Aside0.mk H
                      clear H
                      go_wp2_with (first | (go_at_call 40; (with_reducible refine (impl_AreRunners.calls t467 _ _ t468 t479 _ ?side1 ?side2 A261.out).mono ?_); (case side1 => repeat (first | exact (Kd.R_reads' HO470.out).2.2 | (with_reducible refine Kd.C_alloc ?_ _) | (with_reducible refine Kd.C_drewN ?_ _) | (with_reducible refine Kd.C_drew ?_))); (case side2 => exact (Kd.R_reads' HO470.out).2.1); rintro e w270 ⟨rfl, hb⟩; have n0_ := Aside0.mk (Kd.R_below (by (with_reducible repeat (first | apply Kd.R_alloc | apply Kd.R_drewN | apply Kd.R_drew)); exact HO470.out) hb); have n1_ := Aside0.mk (blk_below (g := gb404) (o := .cells #[.int .i64 t399, .int .i64 t400] 45 (0, 0)) bk_ hb); have n2_ := Aside0.mk (blk_below (g := gb405) (o := .cells #[.int .i64 t401, .int .i64 t402] 45 (0, 0)) bk_ hb); have n3_ := Aside0.mk (below_step bw_ hb); clear HO470; clear BK404; clear BK405; clear HB; have HO470 := n0_; have BK404 := n1_; have BK405 := n2_; have HB := n3_; clear n0_ n1_ n2_ n3_; (try clear hb); (try clear hb2); (try clear hk); (try clear hi)) | (go_at_call 40; (with_reducible refine (impl_AreRunners.calls t467 _ _ t468 t479 _ ?side1 ?side2 A263.out).mono ?_); (case side1 => repeat (first | exact (Kd.R_reads' HO470.out).2.2 | (with_reducible refine Kd.C_alloc ?_ _) | (with_reducible refine Kd.C_drewN ?_ _) | (with_reducible refine Kd.C_drew ?_))); (case side2 => exact (Kd.R_reads' HO470.out).2.1); rintro e w271 ⟨rfl, hb⟩; have n0_ := Aside0.mk (Kd.R_below (by (with_reducible repeat (first | apply Kd.R_alloc | apply Kd.R_drewN | apply Kd.R_drew)); exact HO470.out) hb); have n1_ := Aside0.mk (blk_below (g := gb404) (o := .cells #[.int .i64 t399, .int .i64 t400] 45 (0, 0)) bk_ hb); have n2_ := Aside0.mk (blk_below (g := gb405) (o := .cells #[.int .i64 t401, .int .i64 t402] 45 (0, 0)) bk_ hb); have n3_ := Aside0.mk (below_step bw_ hb); clear HO470; clear BK404; clear BK405; clear HB; have HO470 := n0_; have BK404 := n1_; have BK405 := n2_; have HB := n3_; clear n0_ n1_ n2_ n3_; (try clear hb); (try clear hb2); (try clear hk); (try clear hi)) | (go_at_call 41; (with_reducible refine (spec_AreRunners.calls kj179 t467 _ _ t468 t481 _ ?side1 ?side2 A264.out).mono ?_); (case side1 => repeat (first | exact (Kd.R_reads' HO470.out).2.2 | (with_reducible refine Kd.C_alloc ?_ _) | (with_reducible refine Kd.C_drewN ?_ _) | (with_reducible refine Kd.C_drew ?_))); (case side2 => exact (Kd.R_reads' HO470.out).2.1); rintro e w272 ⟨rfl, hb⟩; have n0_ := Aside0.mk (Kd.R_below (by (with_reducible repeat (first | apply Kd.R_alloc | apply Kd.R_drewN | apply Kd.R_drew)); exact HO470.out) hb); have n1_ := Aside0.mk (blk_below (g := gb404) (o := .cells #[.int .i64 t399, .int .i64 t400] 45 (0, 0)) bk_ hb); have n2_ := Aside0.mk (blk_below (g := gb405) (o := .cells #[.int .i64 t401, .int .i64 t402] 45 (0, 0)) bk_ hb); have n3_ := Aside0.mk (below_step bw_ hb); clear HO470; clear BK404; clear BK405; clear HB; have HO470 := n0_; have BK404 := n1_; have BK405 := n2_; have HB := n3_; clear n0_ n1_ n2_ n3_; (try clear hb); (try clear hb2); (try clear hk); (try clear hi)))
                      go_meet
                      case rel => exact ⟨_, (false), (by first | rfl | (simp; done) | (simp [*]; done)), H', ⟨by have := HJ15.out; have := HJ85.out; have := HJ122.out; have := HJ132.out; have := HJ179.out; first | omega | exact Nat.le_refl _⟩, ⟨by (with_reducible repeat (first | apply Kd.R_alloc | apply Kd.R_drewN | apply Kd.R_drew)); exact Kd.R_mono HO470.out (fun _ hk => ⟨hk.1.2, hk.2⟩)⟩, ⟨bk_⟩, ⟨bk_⟩, ⟨bw_⟩⟩
                  ·
                   rw [if_neg c260] at H
                   have c260b0 : (t475 == t477) = false := beq_eq_false_iff_ne.mpr c260
                   have c260b1 : (t475 != t477) = true := bne_iff_ne.mpr c260
                   exact absurd (H.trans (congrArg some HRT.out)) (by cases kj179 <;> simp [laws_FnRunnersMeet.j12])
                ·
                 rw [if_neg c258] at H
                 have c258b0 : (t471 == t473) = false := beq_eq_false_iff_ne.mpr c258
                 have c258b1 : (t471 != t473) = true := bne_iff_ne.mpr c258
                 exact absurd (H.trans (congrArg some HRT.out)) (by cases kj179 <;> simp [laws_FnRunnersMeet.j12])
              case rest => as_aux_lemma =>
               clear HC250
               (try clear c1); (try clear c4); (try clear c85); (try clear c132); (try clear hcz21_0); (try clear hcz21_1); (try clear hcz22_0); (try clear hcz22_1); (try clear hcz24_0); (try clear hcz24_1); (try clear hcz25_0); (try clear hcz25_1); (try clear hcz27_0); (try clear hcz27_1); (try clear hcz28_0); (try clear hcz28_1); (try clear hcz30_0); (try clear hcz30_1); (try clear hcz31_0); (try clear hcz31_1); (try clear hcz33_0); (try clear hcz33_1); (try clear hcz34_0); (try clear hcz34_1); (try clear hcz36_0); (try clear hcz36_1); (try clear hcz37_0); (try clear hcz37_1); (try clear hcz39_0); (try clear hcz39_1); (try clear hcz40_0); (try clear hcz40_1); (try clear hcz42_0); (try clear hcz42_1); (try clear hcz43_0); (try clear hcz43_1); (try clear hcz45_0); (try clear hcz45_1); (try clear hcz46_0); (try clear hcz46_1); (try clear hcz48_0); (try clear hcz48_1); (try clear hcz49_0); (try clear hcz49_1); (try clear hfz21_0); (try clear hfz21_1); (try clear hfz22_0); (try clear hfz22_1); (try clear hfz24_0); (try clear hfz24_1); (try clear hfz25_0); (try clear hfz25_1); (try clear hfz27_0); (try clear hfz27_1); (try clear hfz28_0); (try clear hfz28_1); (try clear hfz30_0); (try clear hfz30_1); (try clear hfz31_0); (try clear hfz31_1); (try clear hfz33_0); (try clear hfz33_1); (try clear hfz34_0); (try clear hfz34_1); (try clear hfz36_0); (try clear hfz36_1); (try clear hfz37_0); (try clear hfz37_1); (try clear hfz39_0); (try clear hfz39_1); (try clear hfz40_0); (try clear hfz40_1); (try clear hfz42_0); (try clear hfz42_1); (try clear hfz43_0); (try clear hfz43_1); (try clear hfz45_0); (try clear hfz45_1); (try clear hfz46_0); (try clear hfz46_1); (try clear hfz48_0); (try clear hfz48_1); (try clear hfz49_0); (try clear hfz49_1)
               obtain ⟨kq, x591_249, rfl, HA, HJ249, HO_53, BK404, BK405, HB⟩ := hcut
               cases kq with
               | zero => exact absurd HA.out (by simp [laws_FnRunnersMeet.j12])
               | succ kj249 =>
                have H := HA.out
                clear HA
                simp only [laws_FnRunnersMeet.j12] at H
                by_cases c273 : x591_249 = true
                ·
                 subst c273
                 rw [if_pos rfl] at H
                 exact absurd ((Option.some.inj H).trans HRT.out) (by decide)
                ·
                 replace c273 := Bool.eq_false_iff.mpr c273
                 subst c273
                 rw [if_neg (show ¬ (false = true) by decide)] at H
                 by_cases c274 : t476 = true
                 ·
                  subst c274
                  rw [if_pos rfl] at H
                  have HC275 := Aside0.mk H
                  clear H
                  go_upto_region 68 with (fail)
                  go_cut [617] from 593 to 617 (fun v617 wc => ∃ (kq : Nat) (x617_274 : Bool), v617 = .bool x617_274 ∧ Aside0 (laws_FnRunnersMeet.j13 kq t467 t468 t471 t472 t475 x617_274 = some r) ∧ Aside0 (kq ≤ kj249) ∧ Aside0 (Kd.R k45 45 wc w.heap.size (fun k_ => k_ ≠ gb404 ∧ k_ ≠ gb405) (.slice Ao252 t468.length co252) t468) ∧ Aside0 (wc.heap[gb404]? = some (.cells #[.int .i64 t399, .int .i64 t400] 45 (0, 0))) ∧ Aside0 (wc.heap[gb405]? = some (.cells #[.int .i64 t401, .int .i64 t402] 45 (0, 0))) ∧ Aside0 (Below w.heap.size w wc))
                  case first => as_aux_lemma =>
                   have H := HC275.out
                   clear HC275
                   by_cases c276 : t475 < 1
                   ·
                    rw [if_pos c276] at H
                    have c276b0 : decide (t475 < 1) = true := decide_eq_true c276
                    clear c276
                    (first | rw [c276b0] | (simp only [i64_w, i32_w]; rw [c276b0]) | skip)
                    exact absurd (H.trans (congrArg some HRT.out)) (by cases kj249 <;> simp [laws_FnRunnersMeet.j13])
                   ·
                    rw [if_neg c276] at H
                    have c276b0 : decide (t475 < 1) = false := decide_eq_false c276
                    clear c276
                    (first | rw [c276b0] | (simp only [i64_w, i32_w]; rw [c276b0]) | skip)
                    by_cases c277 : t475 > t467
                    ·
                     rw [if_pos c277] at H
                     have c277b0 : decide (t467 < t475) = true := decide_eq_true c277
                     clear c277
                     exact absurd (H.trans (congrArg some HRT.out)) (by cases kj249 <;> simp [laws_FnRunnersMeet.j13])
                    ·
                     rw [if_neg c277] at H
                     have c277b0 : decide (t467 < t475) = false := decide_eq_false c277
                     clear c277
                     by_cases c278 : t475 = 0
                     ·
                      rw [if_pos c278] at H
                      exact absurd H (by simp)
                     ·
                      rw [if_neg c278] at H
                      have c278b0 : (t475 == 0) = false := beq_eq_false_iff_ne.mpr c278
                      have c278b1 : (t475 != 0) = true := bne_iff_ne.mpr c278
                      by_cases c279 : (Int.tmod t467 t475) = 0
                      ·
                       rw [if_pos c279] at H
                       have c279b0 : ((Int.tmod t467 t475) == 0) = true := beq_iff_eq.mpr c279
                       have c279b1 : ((Int.tmod t467 t475) != 0) = false := bne_eq_false_iff_eq.mpr c279
                       clear c279
                       by_cases c280 : t472 = true
                       ·
                        subst c280
                        rw [if_pos rfl] at H
                        by_cases c281 : t471 < 0
                        ·
                         rw [if_pos c281] at H
                         have c281b0 : decide (t471 < 0) = true := decide_eq_true c281
                         clear c281
                         exact absurd (H.trans (congrArg some HRT.out)) (by cases kj249 <;> simp [laws_FnRunnersMeet.j13])
                        ·
                         rw [if_neg c281] at H
                         have c281b0 : decide (t471 < 0) = false := decide_eq_false c281
                         clear c281
                         have H' := Aside0.mk H
                         clear H
                         go_wp2
                         go_meet
                         case rel => exact ⟨_, (decide (t471 ≥ t475)), (by first | rfl | (simp; done) | (simp [*]; done)), H', ⟨by have := HJ15.out; have := HJ85.out; have := HJ122.out; have := HJ132.out; have := HJ179.out; have := HJ249.out; first | omega | exact Nat.le_refl _⟩, ⟨by (with_reducible repeat (first | apply Kd.R_alloc | apply Kd.R_drewN | apply Kd.R_drew)); exact HO_53.out⟩, ⟨bk_⟩, ⟨bk_⟩, ⟨bw_⟩⟩
                       ·
                        replace c280 := Bool.eq_false_iff.mpr c280
                        subst c280
                        rw [if_neg (show ¬ (false = true) by decide)] at H
                        have H' := Aside0.mk H
                        clear H
                        go_wp2
                        go_meet
                        case rel => exact ⟨_, (false), (by first | rfl | (simp; done) | (simp [*]; done)), H', ⟨by have := HJ15.out; have := HJ85.out; have := HJ122.out; have := HJ132.out; have := HJ179.out; have := HJ249.out; first | omega | exact Nat.le_refl _⟩, ⟨by (with_reducible repeat (first | apply Kd.R_alloc | apply Kd.R_drewN | apply Kd.R_drew)); exact HO_53.out⟩, ⟨bk_⟩, ⟨bk_⟩, ⟨bw_⟩⟩
                      ·
                       rw [if_neg c279] at H
                       have c279b0 : ((Int.tmod t467 t475) == 0) = false := beq_eq_false_iff_ne.mpr c279
                       have c279b1 : ((Int.tmod t467 t475) != 0) = true := bne_iff_ne.mpr c279
                       exact absurd (H.trans (congrArg some HRT.out)) (by cases kj249 <;> simp [laws_FnRunnersMeet.j13])
                  case rest => as_aux_lemma =>
                   clear HC275
                   (try clear c1); (try clear c4); (try clear c85); (try clear c132); (try clear c273); (try clear c274); (try clear hcz21_0); (try clear hcz21_1); (try clear hcz22_0); (try clear hcz22_1); (try clear hcz24_0); (try clear hcz24_1); (try clear hcz25_0); (try clear hcz25_1); (try clear hcz27_0); (try clear hcz27_1); (try clear hcz28_0); (try clear hcz28_1); (try clear hcz30_0); (try clear hcz30_1); (try clear hcz31_0); (try clear hcz31_1); (try clear hcz33_0); (try clear hcz33_1); (try clear hcz34_0); (try clear hcz34_1); (try clear hcz36_0); (try clear hcz36_1); (try clear hcz37_0); (try clear hcz37_1); (try clear hcz39_0); (try clear hcz39_1); (try clear hcz40_0); (try clear hcz40_1); (try clear hcz42_0); (try clear hcz42_1); (try clear hcz43_0); (try clear hcz43_1); (try clear hcz45_0); (try clear hcz45_1); (try clear hcz46_0); (try clear hcz46_1); (try clear hcz48_0); (try clear hcz48_1); (try clear hcz49_0); (try clear hcz49_1); (try clear hfz21_0); (try clear hfz21_1); (try clear hfz22_0); (try clear hfz22_1); (try clear hfz24_0); (try clear hfz24_1); (try clear hfz25_0); (try clear hfz25_1); (try clear hfz27_0); (try clear hfz27_1); (try clear hfz28_0); (try clear hfz28_1); (try clear hfz30_0); (try clear hfz30_1); (try clear hfz31_0); (try clear hfz31_1); (try clear hfz33_0); (try clear hfz33_1); (try clear hfz34_0); (try clear hfz34_1); (try clear hfz36_0); (try clear hfz36_1); (try clear hfz37_0); (try clear hfz37_1); (try clear hfz39_0); (try clear hfz39_1); (try clear hfz40_0); (try clear hfz40_1); (try clear hfz42_0); (try clear hfz42_1); (try clear hfz43_0); (try clear hfz43_1); (try clear hfz45_0); (try clear hfz45_1); (try clear hfz46_0); (try clear hfz46_1); (try clear hfz48_0); (try clear hfz48_1); (try clear hfz49_0); (try clear hfz49_1)
                   obtain ⟨kq, x617_274, rfl, HA, HJ274, HO_53, BK404, BK405, HB⟩ := hcut
                   cases kq with
                   | zero => exact absurd HA.out (by simp [laws_FnRunnersMeet.j13])
                   | succ kj274 =>
                    have H := HA.out
                    clear HA
                    simp only [laws_FnRunnersMeet.j13] at H
                    by_cases c282 : x617_274 = true
                    ·
                     subst c282
                     rw [if_pos rfl] at H
                     exact absurd ((Option.some.inj H).trans HRT.out) (by decide)
                    ·
                     replace c282 := Bool.eq_false_iff.mpr c282
                     subst c282
                     rw [if_neg (show ¬ (false = true) by decide)] at H
                     have H' := Aside0.mk H
                     clear H
                     go_wp2
                     go_loopg [62, 620] kj274 (fun kq v62 v620 w' => ∃ (x62_8 : Int) (x620_8 : Int), v62 = .int .i64 x62_8 ∧ v620 = .int .i64 x620_8 ∧ Aside0 (laws_FnRunnersMeet.l3 kq t467 t468 t471 t472 t475 x62_8 t468 (t468.length : Int) x620_8 = some r) ∧ Aside0 (kq ≤ kj274) ∧ Aside0 (Kd.R k45 45 w' w.heap.size (fun k_ => k_ ≠ gb404 ∧ k_ ≠ gb405) (.slice Ao252 t468.length co252) t468) ∧ Aside0 (Kd.R k45 45 w' w.heap.size (fun k_ => k_ ≠ gb404 ∧ k_ ≠ gb405) (.slice Ao252 t468.length co252) t468) ∧ Aside0 (w'.heap[gb404]? = some (.cells #[.int .i64 t399, .int .i64 t400] 45 (0, 0))) ∧ Aside0 (w'.heap[gb405]? = some (.cells #[.int .i64 t401, .int .i64 t402] 45 (0, 0))) ∧ Aside0 (Below w.heap.size w w'))
                     case atStart => exact ⟨((-1)), (0), (by first | rfl | (simp; done) | (simp [*]; done)), (by first | rfl | (simp; done) | (simp [*]; done)), H', ⟨Nat.le_refl _⟩, ⟨by (with_reducible repeat (first | apply Kd.R_alloc | apply Kd.R_drewN | apply Kd.R_drew)); exact HO_53.out⟩, ⟨by (with_reducible repeat (first | apply Kd.R_alloc | apply Kd.R_drewN | apply Kd.R_drew)); exact HO_53.out⟩, ⟨bk_⟩, ⟨bk_⟩, ⟨bw_⟩⟩
                     case round => as_aux_lemma =>
                      clear H'
                      (try clear c1); (try clear c4); (try clear c85); (try clear c132); (try clear c273); (try clear c274); (try clear c282); (try clear hcz21_0); (try clear hcz21_1); (try clear hcz22_0); (try clear hcz22_1); (try clear hcz24_0); (try clear hcz24_1); (try clear hcz25_0); (try clear hcz25_1); (try clear hcz27_0); (try clear hcz27_1); (try clear hcz28_0); (try clear hcz28_1); (try clear hcz30_0); (try clear hcz30_1); (try clear hcz31_0); (try clear hcz31_1); (try clear hcz33_0); (try clear hcz33_1); (try clear hcz34_0); (try clear hcz34_1); (try clear hcz36_0); (try clear hcz36_1); (try clear hcz37_0); (try clear hcz37_1); (try clear hcz39_0); (try clear hcz39_1); (try clear hcz40_0); (try clear hcz40_1); (try clear hcz42_0); (try clear hcz42_1); (try clear hcz43_0); (try clear hcz43_1); (try clear hcz45_0); (try clear hcz45_1); (try clear hcz46_0); (try clear hcz46_1); (try clear hcz48_0); (try clear hcz48_1); (try clear hcz49_0); (try clear hcz49_1); (try clear hfz21_0); (try clear hfz21_1); (try clear hfz22_0); (try clear hfz22_1); (try clear hfz24_0); (try clear hfz24_1); (try clear hfz25_0); (try clear hfz25_1); (try clear hfz27_0); (try clear hfz27_1); (try clear hfz28_0); (try clear hfz28_1); (try clear hfz30_0); (try clear hfz30_1); (try clear hfz31_0); (try clear hfz31_1); (try clear hfz33_0); (try clear hfz33_1); (try clear hfz34_0); (try clear hfz34_1); (try clear hfz36_0); (try clear hfz36_1); (try clear hfz37_0); (try clear hfz37_1); (try clear hfz39_0); (try clear hfz39_1); (try clear hfz40_0); (try clear hfz40_1); (try clear hfz42_0); (try clear hfz42_1); (try clear hfz43_0); (try clear hfz43_1); (try clear hfz45_0); (try clear hfz45_1); (try clear hfz46_0); (try clear hfz46_1); (try clear hfz48_0); (try clear hfz48_1); (try clear hfz49_0); (try clear hfz49_1)
                      obtain ⟨x62_8, x620_8, rfl, rfl, HA, HK8, HO_53, HO_618, BK404, BK405, HB⟩ := hrel
                      cases gk with
                      | zero => exact absurd HA.out (by simp [laws_FnRunnersMeet.l3])
                      | succ k8 =>
                       have H := HA.out
                       clear HA
                       simp only [laws_FnRunnersMeet.l3] at H
                       by_cases c283 : x620_8 < (t468.length : Int)
                       ·
                        rw [if_pos c283] at H
                        have c283b0 : decide (x620_8 < (t468.length : Int)) = true := decide_eq_true c283
                        clear c283
                        by_cases c284 : 0 ≤ x620_8
                        ·
                         rw [if_pos c284] at H
                         have c284b0 : decide (0 ≤ x620_8) = true := decide_eq_true c284
                         clear c284
                         by_cases c285 : x620_8 < (t468.length : Int)
                         ·
                          rw [if_pos c285] at H
                          have c285b0 : decide (x620_8 < (t468.length : Int)) = true := decide_eq_true c285
                          clear c285
                          replace H := Option.bind_eq_some_iff.mp H
                          obtain ⟨⟨t484, t485⟩, A2860, H⟩ := H
                          (try dsimp only at H)
                          have A286 := Aside0.mk A2860
                          clear A2860
                          have HC287 := Aside0.mk H
                          clear H
                          have p482 : 0 ≤ (x620_8 : Int) := of_decide_eq_true (by first | (with_reducible assumption) | assumption)
                          have q482 : x620_8 < (t468.length : Int) := of_decide_eq_true (by first | (with_reducible assumption) | assumption)
                          obtain ⟨ad482, e482, hx482_0, hx482_1⟩ := at_T45 (Kd.R_reads' HO_618.out).2.2 x620_8 p482 q482
                          cases e482
                          replace p482 := eq_true p482
                          replace q482 := eq_true q482
                          go_upto_region 75 with (first | ((with_reducible refine gate_dst (N := 64) rfl ?_); (try (refine gate_guard (by rfl) ?_; dsimp only)); refine box_event ?hg (N := 64) ?hd (cs := #[.int .i64 0, .int .i64 0]) (t := 45) ?hr ?_; (case hd => rfl); (case hg => rfl); (case hr => first | (go_simp; done) | (go_simp; rfl)); intro gb483 hg w288 hbox hb; have n0_ := Aside0.mk (Kd.R_below (Kd.R_elderB (by (with_reducible repeat (first | apply Kd.R_alloc | apply Kd.R_drewN | apply Kd.R_drew)); exact HO_53.out) gb483 (Nat.le_of_eq hg.symm)) hb); have n1_ := Aside0.mk (Kd.R_below (Kd.R_elderB (by (with_reducible repeat (first | apply Kd.R_alloc | apply Kd.R_drewN | apply Kd.R_drew)); exact HO_618.out) gb483 (Nat.le_of_eq hg.symm)) hb); have n2_ := Aside0.mk (blk_below (g := gb404) (o := .cells #[.int .i64 t399, .int .i64 t400] 45 (0, 0)) bk_ hb); have n3_ := Aside0.mk (blk_below (g := gb405) (o := .cells #[.int .i64 t401, .int .i64 t402] 45 (0, 0)) bk_ hb); have n4_ := Aside0.mk (below_step bw_ hb); have n5_ := Aside0.mk (hbox); have n6_ := Aside0.mk ((by rw [hg]; exact (below_size bw_) : w.heap.size ≤ gb483)); have n7_ := Aside0.mk ((by rw [hg]; exact (below_size bw_) : w.heap.size ≤ gb483)); have n8_ := Aside0.mk ((by rw [hg]; exact Nat.ne_of_lt (blk_lt (g := gb404) (o := .cells #[.int .i64 t399, .int .i64 t400] 45 (0, 0)) bk_) : gb404 ≠ gb483)); have n9_ := Aside0.mk ((by rw [hg]; exact Nat.ne_of_gt (blk_lt (g := gb404) (o := .cells #[.int .i64 t399, .int .i64 t400] 45 (0, 0)) bk_) : gb483 ≠ gb404)); have n10_ := Aside0.mk ((by rw [hg]; exact Nat.ne_of_lt (blk_lt (g := gb405) (o := .cells #[.int .i64 t401, .int .i64 t402] 45 (0, 0)) bk_) : gb405 ≠ gb483)); have n11_ := Aside0.mk ((by rw [hg]; exact Nat.ne_of_gt (blk_lt (g := gb405) (o := .cells #[.int .i64 t401, .int .i64 t402] 45 (0, 0)) bk_) : gb483 ≠ gb405)); clear HO_53; clear HO_618; clear BK404; clear BK405; clear HB; have HO_53 := n0_; have HO_618 := n1_; have BK404 := n2_; have BK405 := n3_; have HB := n4_; have BK483 := n5_; have GW483 := n6_; have GE483 := n7_; have NB404_483 := n8_; have NB483_404 := n9_; have NB405_483 := n10_; have NB483_405 := n11_; clear n0_ n1_ n2_ n3_ n4_ n5_ n6_ n7_ n8_ n9_ n10_ n11_; clear hb hbox hg; have hnb289 := NB483_404.out; have hnc289 := NB404_483.out; have hnb290 := NB483_405.out; have hnc290 := NB405_483.out; have hcz291_0 : w288.cell? ⟨gb483, 0, none⟩ = some (.int .i64 0) := (blk_cell BK483.out 0).trans rfl; have hcz291_1 : w288.cell? ⟨gb483, 1, none⟩ = some (.int .i64 0) := (blk_cell BK483.out 1).trans rfl; have hfz291_0 := blk_frozen BK483.out 0; have hfz291_1 := blk_frozen BK483.out 1) | ((with_reducible refine gate_callee (f := 34) rfl ?_); refine goesL_ (some 628) rfl rfl Try.func34 (by kernel_rfl) rfl #[.int .i64 t467, .agg #[.int .i64 ((rd_T45 t468 x620_8).f0), .int .i64 ((rd_T45 t468 x620_8).f1)], .int .i64 t475] rfl (by (try simp only [List.map_toArray, List.map_cons, List.map_nil]); first | done | rfl | (simp only [List.length_drop, List.length_take]; rfl)) ?_; (with_reducible refine (impl_PlaceOnTrack.calls t467 ((rd_T45 t468 x620_8).f0) ((rd_T45 t468 x620_8).f1) t475 t484 t485 _ A286.out).mono ?_); rintro e w292 ⟨rfl, hb⟩; refine ⟨_, rfl, ?_⟩; have n0_ := Aside0.mk (Kd.R_below (by (with_reducible repeat (first | apply Kd.R_alloc | apply Kd.R_drewN | apply Kd.R_drew)); exact (Kd.R_mono (Kd.R_far (p := ⟨gb483, 1, none⟩) (Kd.R_far (p := ⟨gb483, 0, none⟩) (Kd.R_mono HO_53.out (fun k_ hk => (⟨hk, hk.2⟩ : _ ∧ k_ ≠ gb483))) (fun _ hk => hk.2) (.int .i64 ((rd_T45 t468 x620_8).f0))) (fun _ hk => hk.2) (.int .i64 ((rd_T45 t468 x620_8).f1))) (fun _ h_ => h_.1))) hb); have n1_ := Aside0.mk (Kd.R_below (by (with_reducible repeat (first | apply Kd.R_alloc | apply Kd.R_drewN | apply Kd.R_drew)); exact (Kd.R_mono (Kd.R_far (p := ⟨gb483, 1, none⟩) (Kd.R_far (p := ⟨gb483, 0, none⟩) (Kd.R_mono HO_618.out (fun k_ hk => (⟨hk, hk.2⟩ : _ ∧ k_ ≠ gb483))) (fun _ hk => hk.2) (.int .i64 ((rd_T45 t468 x620_8).f0))) (fun _ hk => hk.2) (.int .i64 ((rd_T45 t468 x620_8).f1))) (fun _ h_ => h_.1))) hb); have n2_ := Aside0.mk (blk_below (g := gb404) (o := .cells #[.int .i64 t399, .int .i64 t400] 45 (0, 0)) (by (with_reducible repeat (first | refine blk_drewN ?_ _ | refine blk_drew ?_ | refine blk_alloc ?_ _)); refine blk_far ?_ NB404_483.out _; (with_reducible repeat (first | refine blk_drewN ?_ _ | refine blk_drew ?_ | refine blk_alloc ?_ _)); refine blk_far ?_ NB404_483.out _; (with_reducible repeat (first | refine blk_drewN ?_ _ | refine blk_drew ?_ | refine blk_alloc ?_ _)); exact BK404.out) hb); have n3_ := Aside0.mk (blk_below (g := gb405) (o := .cells #[.int .i64 t401, .int .i64 t402] 45 (0, 0)) (by (with_reducible repeat (first | refine blk_drewN ?_ _ | refine blk_drew ?_ | refine blk_alloc ?_ _)); refine blk_far ?_ NB405_483.out _; (with_reducible repeat (first | refine blk_drewN ?_ _ | refine blk_drew ?_ | refine blk_alloc ?_ _)); refine blk_far ?_ NB405_483.out _; (with_reducible repeat (first | refine blk_drewN ?_ _ | refine blk_drew ?_ | refine blk_alloc ?_ _)); exact BK405.out) hb); have n4_ := Aside0.mk (blk_below (g := gb483) (o := .cells #[.int .i64 ((rd_T45 t468 x620_8).f0), .int .i64 ((rd_T45 t468 x620_8).f1)] 45 (0, 0)) (by (with_reducible repeat (first | refine blk_drewN ?_ _ | refine blk_drew ?_ | refine blk_alloc ?_ _)); refine blk_put (cs := #[.int .i64 ((rd_T45 t468 x620_8).f0), .int .i64 0]) ?_ 1 _ rfl; (with_reducible repeat (first | refine blk_drewN ?_ _ | refine blk_drew ?_ | refine blk_alloc ?_ _)); refine blk_put (cs := #[.int .i64 0, .int .i64 0]) ?_ 0 _ rfl; (with_reducible repeat (first | refine blk_drewN ?_ _ | refine blk_drew ?_ | refine blk_alloc ?_ _)); exact BK483.out) hb); have n5_ := Aside0.mk (below_step bw_ hb); clear HO_53; clear HO_618; clear BK404; clear BK405; clear BK483; clear HB; have HO_53 := n0_; have HO_618 := n1_; have BK404 := n2_; have BK405 := n3_; have BK483 := n4_; have HB := n5_; clear n0_ n1_ n2_ n3_ n4_ n5_; (try clear hb); (try clear hb2); (try clear hk); (try clear hi)))
                          (try simp only [Act.put, List.setIfInBounds_toArray, List.set_cons_zero, List.set_cons_succ])
                          go_cut [638] from 631 to 638 (fun v638 wc => ∃ (kq : Nat) (x638_286 : Bool), v638 = .bool x638_286 ∧ Aside0 (laws_FnRunnersMeet.j15 kq t467 t468 t471 t472 t475 x62_8 t468 (t468.length : Int) x620_8 x638_286 ((rd_T45 t468 x620_8).f0) ((rd_T45 t468 x620_8).f1) = some r) ∧ Aside0 (kq ≤ k8) ∧ Aside0 (Kd.R k45 45 wc w.heap.size (fun k_ => k_ ≠ gb404 ∧ k_ ≠ gb405 ∧ k_ ≠ gb483) (.slice (some ad482) t468.length co252) t468) ∧ Aside0 (Kd.R k45 45 wc w.heap.size (fun k_ => k_ ≠ gb404 ∧ k_ ≠ gb405 ∧ k_ ≠ gb483) (.slice (some ad482) t468.length co252) t468) ∧ Aside0 (wc.heap[gb404]? = some (.cells #[.int .i64 t399, .int .i64 t400] 45 (0, 0))) ∧ Aside0 (wc.heap[gb405]? = some (.cells #[.int .i64 t401, .int .i64 t402] 45 (0, 0))) ∧ Aside0 (wc.heap[gb483]? = some (.cells #[.int .i64 ((rd_T45 t468 x620_8).f0), .int .i64 ((rd_T45 t468 x620_8).f1)] 45 (0, 0))) ∧ Aside0 (Below w.heap.size w wc))
                          case first => as_aux_lemma =>
                           have H := HC287.out
                           clear HC287
                           by_cases c293 : t485 = true
                           ·
                            subst c293
                            rw [if_pos rfl] at H
                            have H' := Aside0.mk H
                            clear H
                            have hnb294 := NB483_404.out
                            have hnc294 := NB404_483.out
                            have hnb295 := NB483_405.out
                            have hnc295 := NB405_483.out
                            have hcz296_0 : w292.cell? ⟨gb483, 0, none⟩ = some (.int .i64 ((rd_T45 t468 x620_8).f0)) := (blk_cell BK483.out 0).trans rfl
                            have hcz296_1 : w292.cell? ⟨gb483, 1, none⟩ = some (.int .i64 ((rd_T45 t468 x620_8).f1)) := (blk_cell BK483.out 1).trans rfl
                            have hfz296_0 := blk_frozen BK483.out 0
                            have hfz296_1 := blk_frozen BK483.out 1
                            go_wp2
                            go_meet
                            case rel => exact ⟨_, ((t484 != ((rd_T45 t468 x620_8).f0))), (by first | rfl | (simp; done) | (simp [*]; done)), H', ⟨by have := HJ15.out; have := HJ85.out; have := HJ122.out; have := HJ132.out; have := HJ179.out; have := HJ249.out; have := HJ274.out; have := HK8.out; first | omega | exact Nat.le_refl _⟩, ⟨by (with_reducible repeat (first | apply Kd.R_alloc | apply Kd.R_drewN | apply Kd.R_drew)); exact Kd.R_mono HO_53.out (fun _ hk => ⟨hk.1.1, ⟨hk.1.2, hk.2⟩⟩)⟩, ⟨by (with_reducible repeat (first | apply Kd.R_alloc | apply Kd.R_drewN | apply Kd.R_drew)); exact Kd.R_mono HO_618.out (fun _ hk => ⟨hk.1.1, ⟨hk.1.2, hk.2⟩⟩)⟩, ⟨bk_⟩, ⟨bk_⟩, ⟨bk_⟩, ⟨bw_⟩⟩
                           ·
                            replace c293 := Bool.eq_false_iff.mpr c293
                            subst c293
                            rw [if_neg (show ¬ (false = true) by decide)] at H
                            exact absurd (H.trans (congrArg some HRT.out)) (by cases k8 <;> simp [laws_FnRunnersMeet.j15])
                          case rest => as_aux_lemma =>
                           clear HC287
                           (try clear c1); (try clear c4); (try clear c85); (try clear c132); (try clear c273); (try clear c274); (try clear c282); (try clear c283); (try clear c283b0); (try clear c284); (try clear c284b0); (try clear c285); (try clear c285b0); (try clear hcz21_0); (try clear hcz21_1); (try clear hcz22_0); (try clear hcz22_1); (try clear hcz24_0); (try clear hcz24_1); (try clear hcz25_0); (try clear hcz25_1); (try clear hcz27_0); (try clear hcz27_1); (try clear hcz28_0); (try clear hcz28_1); (try clear hcz291_0); (try clear hcz291_1); (try clear hcz30_0); (try clear hcz30_1); (try clear hcz31_0); (try clear hcz31_1); (try clear hcz33_0); (try clear hcz33_1); (try clear hcz34_0); (try clear hcz34_1); (try clear hcz36_0); (try clear hcz36_1); (try clear hcz37_0); (try clear hcz37_1); (try clear hcz39_0); (try clear hcz39_1); (try clear hcz40_0); (try clear hcz40_1); (try clear hcz42_0); (try clear hcz42_1); (try clear hcz43_0); (try clear hcz43_1); (try clear hcz45_0); (try clear hcz45_1); (try clear hcz46_0); (try clear hcz46_1); (try clear hcz48_0); (try clear hcz48_1); (try clear hcz49_0); (try clear hcz49_1); (try clear hfz21_0); (try clear hfz21_1); (try clear hfz22_0); (try clear hfz22_1); (try clear hfz24_0); (try clear hfz24_1); (try clear hfz25_0); (try clear hfz25_1); (try clear hfz27_0); (try clear hfz27_1); (try clear hfz28_0); (try clear hfz28_1); (try clear hfz291_0); (try clear hfz291_1); (try clear hfz30_0); (try clear hfz30_1); (try clear hfz31_0); (try clear hfz31_1); (try clear hfz33_0); (try clear hfz33_1); (try clear hfz34_0); (try clear hfz34_1); (try clear hfz36_0); (try clear hfz36_1); (try clear hfz37_0); (try clear hfz37_1); (try clear hfz39_0); (try clear hfz39_1); (try clear hfz40_0); (try clear hfz40_1); (try clear hfz42_0); (try clear hfz42_1); (try clear hfz43_0); (try clear hfz43_1); (try clear hfz45_0); (try clear hfz45_1); (try clear hfz46_0); (try clear hfz46_1); (try clear hfz48_0); (try clear hfz48_1); (try clear hfz49_0); (try clear hfz49_1); (try clear hx482_0); (try clear hx482_1); (try clear p482); (try clear q482)
                           obtain ⟨kq, x638_286, rfl, HA, HJ286, HO_53, HO_618, BK404, BK405, BK483, HB⟩ := hcut
                           cases kq with
                           | zero => exact absurd HA.out (by simp [laws_FnRunnersMeet.j15])
                           | succ kj286 =>
                            have H := HA.out
                            clear HA
                            simp only [laws_FnRunnersMeet.j15] at H
                            by_cases c297 : x638_286 = true
                            ·
                             subst c297
                             rw [if_pos rfl] at H
                             exact absurd ((Option.some.inj H).trans HRT.out) (by decide)
                            ·
                             replace c297 := Bool.eq_false_iff.mpr c297
                             subst c297
                             rw [if_neg (show ¬ (false = true) by decide)] at H
                             by_cases c298 : t472 = true
                             ·
                              subst c298
                              rw [if_pos rfl] at H
                              replace H := Option.bind_eq_some_iff.mp H
                              obtain ⟨⟨t486, t487⟩, A2990, H⟩ := H
                              (try dsimp only at H)
                              have A299 := Aside0.mk A2990
                              clear A2990
                              by_cases c300 : t487 = true
                              ·
                               subst c300
                               rw [if_pos rfl] at H
                               by_cases c301 : x62_8 ≥ 0
                               ·
                                rw [if_pos c301] at H
                                have c301b0 : decide (0 ≤ x62_8) = true := decide_eq_true c301
                                clear c301
                                by_cases c302 : t486 = x62_8
                                ·
                                 rw [if_pos c302] at H
                                 have c302b0 : (t486 == x62_8) = true := beq_iff_eq.mpr c302
                                 have c302b1 : (t486 != x62_8) = false := bne_eq_false_iff_eq.mpr c302
                                 clear c302
                                 have H' := Aside0.mk H
                                 clear H
                                 have hnb303 := NB483_404.out
                                 have hnc303 := NB404_483.out
                                 have hnb304 := NB483_405.out
                                 have hnc304 := NB405_483.out
                                 have hcz305_0 : wc.cell? ⟨gb483, 0, none⟩ = some (.int .i64 ((rd_T45 t468 x620_8).f0)) := (blk_cell BK483.out 0).trans rfl
                                 have hcz305_1 : wc.cell? ⟨gb483, 1, none⟩ = some (.int .i64 ((rd_T45 t468 x620_8).f1)) := (blk_cell BK483.out 1).trans rfl
                                 have hfz305_0 := blk_frozen BK483.out 0
                                 have hfz305_1 := blk_frozen BK483.out 1
                                 go_wp2_with (first | ((with_reducible refine gate_callee (f := 34) rfl ?_); refine goesL_ (some 644) rfl rfl Try.func34 (by kernel_rfl) rfl #[.int .i64 t467, .agg #[.int .i64 ((rd_T45 t468 x620_8).f0), .int .i64 ((rd_T45 t468 x620_8).f1)], .int .i64 t471] rfl (by (try simp only [List.map_toArray, List.map_cons, List.map_nil]); first | done | rfl | (simp only [List.length_drop, List.length_take]; rfl)) ?_; (with_reducible refine (impl_PlaceOnTrack.calls t467 ((rd_T45 t468 x620_8).f0) ((rd_T45 t468 x620_8).f1) t471 t486 true _ A299.out).mono ?_); rintro e w306 ⟨rfl, hb⟩; refine ⟨_, rfl, ?_⟩; have n0_ := Aside0.mk (Kd.R_below (by (with_reducible repeat (first | apply Kd.R_alloc | apply Kd.R_drewN | apply Kd.R_drew)); exact HO_53.out) hb); have n1_ := Aside0.mk (Kd.R_below (by (with_reducible repeat (first | apply Kd.R_alloc | apply Kd.R_drewN | apply Kd.R_drew)); exact HO_618.out) hb); have n2_ := Aside0.mk (blk_below (g := gb404) (o := .cells #[.int .i64 t399, .int .i64 t400] 45 (0, 0)) bk_ hb); have n3_ := Aside0.mk (blk_below (g := gb405) (o := .cells #[.int .i64 t401, .int .i64 t402] 45 (0, 0)) bk_ hb); have n4_ := Aside0.mk (blk_below (g := gb483) (o := .cells #[.int .i64 ((rd_T45 t468 x620_8).f0), .int .i64 ((rd_T45 t468 x620_8).f1)] 45 (0, 0)) bk_ hb); have n5_ := Aside0.mk (below_step bw_ hb); clear HO_53; clear HO_618; clear BK404; clear BK405; clear BK483; clear HB; have HO_53 := n0_; have HO_618 := n1_; have BK404 := n2_; have BK405 := n3_; have BK483 := n4_; have HB := n5_; clear n0_ n1_ n2_ n3_ n4_ n5_; (try clear hb); (try clear hb2); (try clear hk); (try clear hi)))
                                 go_roundg kj286
                                 case measure => have := HJ15.out; have := HJ85.out; have := HJ122.out; have := HJ132.out; have := HJ179.out; have := HJ249.out; have := HJ274.out; have := HK8.out; have := HJ286.out; omega
                                 case rel => exact ⟨(t486), (wrap64 (x620_8 + 1)), (by first | rfl | (simp; done) | (simp [*]; done)), (by first | rfl | (simp; done) | (simp [*]; done)), H', ⟨by have := HJ15.out; have := HJ85.out; have := HJ122.out; have := HJ132.out; have := HJ179.out; have := HJ249.out; have := HJ274.out; have := HK8.out; have := HJ286.out; omega⟩, ⟨by (with_reducible repeat (first | apply Kd.R_alloc | apply Kd.R_drewN | apply Kd.R_drew)); exact Kd.R_mono HO_53.out (fun _ hk => ⟨hk.1, hk.2.1⟩)⟩, ⟨by (with_reducible repeat (first | apply Kd.R_alloc | apply Kd.R_drewN | apply Kd.R_drew)); exact Kd.R_mono HO_618.out (fun _ hk => ⟨hk.1, hk.2.1⟩)⟩, ⟨bk_⟩, ⟨bk_⟩, ⟨bw_⟩⟩
                                ·
                                 rw [if_neg c302] at H
                                 have c302b0 : (t486 == x62_8) = false := beq_eq_false_iff_ne.mpr c302
                                 have c302b1 : (t486 != x62_8) = true := bne_iff_ne.mpr c302
                                 exact absurd ((Option.some.inj H).trans HRT.out) (by decide)
                               ·
                                rw [if_neg c301] at H
                                have c301b0 : decide (0 ≤ x62_8) = false := decide_eq_false c301
                                clear c301
                                have H' := Aside0.mk H
                                clear H
                                have hnb307 := NB483_404.out
                                have hnc307 := NB404_483.out
                                have hnb308 := NB483_405.out
                                have hnc308 := NB405_483.out
                                have hcz309_0 : wc.cell? ⟨gb483, 0, none⟩ = some (.int .i64 ((rd_T45 t468 x620_8).f0)) := (blk_cell BK483.out 0).trans rfl
                                have hcz309_1 : wc.cell? ⟨gb483, 1, none⟩ = some (.int .i64 ((rd_T45 t468 x620_8).f1)) := (blk_cell BK483.out 1).trans rfl
                                have hfz309_0 := blk_frozen BK483.out 0
                                have hfz309_1 := blk_frozen BK483.out 1
                                go_wp2_with (first | ((with_reducible refine gate_callee (f := 34) rfl ?_); refine goesL_ (some 644) rfl rfl Try.func34 (by kernel_rfl) rfl #[.int .i64 t467, .agg #[.int .i64 ((rd_T45 t468 x620_8).f0), .int .i64 ((rd_T45 t468 x620_8).f1)], .int .i64 t471] rfl (by (try simp only [List.map_toArray, List.map_cons, List.map_nil]); first | done | rfl | (simp only [List.length_drop, List.length_take]; rfl)) ?_; (with_reducible refine (impl_PlaceOnTrack.calls t467 ((rd_T45 t468 x620_8).f0) ((rd_T45 t468 x620_8).f1) t471 t486 true _ A299.out).mono ?_); rintro e w310 ⟨rfl, hb⟩; refine ⟨_, rfl, ?_⟩; have n0_ := Aside0.mk (Kd.R_below (by (with_reducible repeat (first | apply Kd.R_alloc | apply Kd.R_drewN | apply Kd.R_drew)); exact HO_53.out) hb); have n1_ := Aside0.mk (Kd.R_below (by (with_reducible repeat (first | apply Kd.R_alloc | apply Kd.R_drewN | apply Kd.R_drew)); exact HO_618.out) hb); have n2_ := Aside0.mk (blk_below (g := gb404) (o := .cells #[.int .i64 t399, .int .i64 t400] 45 (0, 0)) bk_ hb); have n3_ := Aside0.mk (blk_below (g := gb405) (o := .cells #[.int .i64 t401, .int .i64 t402] 45 (0, 0)) bk_ hb); have n4_ := Aside0.mk (blk_below (g := gb483) (o := .cells #[.int .i64 ((rd_T45 t468 x620_8).f0), .int .i64 ((rd_T45 t468 x620_8).f1)] 45 (0, 0)) bk_ hb); have n5_ := Aside0.mk (below_step bw_ hb); clear HO_53; clear HO_618; clear BK404; clear BK405; clear BK483; clear HB; have HO_53 := n0_; have HO_618 := n1_; have BK404 := n2_; have BK405 := n3_; have BK483 := n4_; have HB := n5_; clear n0_ n1_ n2_ n3_ n4_ n5_; (try clear hb); (try clear hb2); (try clear hk); (try clear hi)))
                                go_roundg kj286
                                case measure => have := HJ15.out; have := HJ85.out; have := HJ122.out; have := HJ132.out; have := HJ179.out; have := HJ249.out; have := HJ274.out; have := HK8.out; have := HJ286.out; omega
                                case rel => exact ⟨(t486), (wrap64 (x620_8 + 1)), (by first | rfl | (simp; done) | (simp [*]; done)), (by first | rfl | (simp; done) | (simp [*]; done)), H', ⟨by have := HJ15.out; have := HJ85.out; have := HJ122.out; have := HJ132.out; have := HJ179.out; have := HJ249.out; have := HJ274.out; have := HK8.out; have := HJ286.out; omega⟩, ⟨by (with_reducible repeat (first | apply Kd.R_alloc | apply Kd.R_drewN | apply Kd.R_drew)); exact Kd.R_mono HO_53.out (fun _ hk => ⟨hk.1, hk.2.1⟩)⟩, ⟨by (with_reducible repeat (first | apply Kd.R_alloc | apply Kd.R_drewN | apply Kd.R_drew)); exact Kd.R_mono HO_618.out (fun _ hk => ⟨hk.1, hk.2.1⟩)⟩, ⟨bk_⟩, ⟨bk_⟩, ⟨bw_⟩⟩
                              ·
                               replace c300 := Bool.eq_false_iff.mpr c300
                               subst c300
                               rw [if_neg (show ¬ (false = true) by decide)] at H
                               exact absurd ((Option.some.inj H).trans HRT.out) (by decide)
                             ·
                              replace c298 := Bool.eq_false_iff.mpr c298
                              subst c298
                              rw [if_neg (show ¬ (false = true) by decide)] at H
                              have H' := Aside0.mk H
                              clear H
                              go_wp2
                              go_roundg kj286
                              case measure => have := HJ15.out; have := HJ85.out; have := HJ122.out; have := HJ132.out; have := HJ179.out; have := HJ249.out; have := HJ274.out; have := HK8.out; have := HJ286.out; omega
                              case rel => exact ⟨(x62_8), (wrap64 (x620_8 + 1)), (by first | rfl | (simp; done) | (simp [*]; done)), (by first | rfl | (simp; done) | (simp [*]; done)), H', ⟨by have := HJ15.out; have := HJ85.out; have := HJ122.out; have := HJ132.out; have := HJ179.out; have := HJ249.out; have := HJ274.out; have := HK8.out; have := HJ286.out; omega⟩, ⟨by (with_reducible repeat (first | apply Kd.R_alloc | apply Kd.R_drewN | apply Kd.R_drew)); exact Kd.R_mono HO_53.out (fun _ hk => ⟨hk.1, hk.2.1⟩)⟩, ⟨by (with_reducible repeat (first | apply Kd.R_alloc | apply Kd.R_drewN | apply Kd.R_drew)); exact Kd.R_mono HO_618.out (fun _ hk => ⟨hk.1, hk.2.1⟩)⟩, ⟨bk_⟩, ⟨bk_⟩, ⟨bw_⟩⟩
                         ·
                          rw [if_neg c285] at H
                          exact absurd H (by simp)
                        ·
                         rw [if_neg c284] at H
                         exact absurd H (by simp)
                       ·
                        rw [if_neg c283] at H
                        have c283b0 : decide (x620_8 < (t468.length : Int)) = false := decide_eq_false c283
                        clear c283
                        have H' := Aside0.mk H
                        clear H
                        go_wp2
                        go_loopg [69] k8 (fun kq v69 w' => ∃ (x69_9 : Int), v69 = .int .i64 x69_9 ∧ Aside0 (laws_FnRunnersMeet.l4 kq t467 t468 t471 t472 x69_9 = some r) ∧ Aside0 (kq ≤ k8) ∧ Aside0 (Kd.R k45 45 w' w.heap.size (fun k_ => k_ ≠ gb404 ∧ k_ ≠ gb405) (.slice Ao252 t468.length co252) t468) ∧ Aside0 (w'.heap[gb404]? = some (.cells #[.int .i64 t399, .int .i64 t400] 45 (0, 0))) ∧ Aside0 (w'.heap[gb405]? = some (.cells #[.int .i64 t401, .int .i64 t402] 45 (0, 0))) ∧ Aside0 (Below w.heap.size w w'))
                        case atStart => exact ⟨(0), (by first | rfl | (simp; done) | (simp [*]; done)), H', ⟨Nat.le_refl _⟩, ⟨by (with_reducible repeat (first | apply Kd.R_alloc | apply Kd.R_drewN | apply Kd.R_drew)); exact HO_53.out⟩, ⟨bk_⟩, ⟨bk_⟩, ⟨bw_⟩⟩
                        case round => as_aux_lemma =>
                         clear H'
                         (try clear c1); (try clear c4); (try clear c85); (try clear c132); (try clear c273); (try clear c274); (try clear c282); (try clear c283); (try clear c283b0); (try clear hcz21_0); (try clear hcz21_1); (try clear hcz22_0); (try clear hcz22_1); (try clear hcz24_0); (try clear hcz24_1); (try clear hcz25_0); (try clear hcz25_1); (try clear hcz27_0); (try clear hcz27_1); (try clear hcz28_0); (try clear hcz28_1); (try clear hcz30_0); (try clear hcz30_1); (try clear hcz31_0); (try clear hcz31_1); (try clear hcz33_0); (try clear hcz33_1); (try clear hcz34_0); (try clear hcz34_1); (try clear hcz36_0); (try clear hcz36_1); (try clear hcz37_0); (try clear hcz37_1); (try clear hcz39_0); (try clear hcz39_1); (try clear hcz40_0); (try clear hcz40_1); (try clear hcz42_0); (try clear hcz42_1); (try clear hcz43_0); (try clear hcz43_1); (try clear hcz45_0); (try clear hcz45_1); (try clear hcz46_0); (try clear hcz46_1); (try clear hcz48_0); (try clear hcz48_1); (try clear hcz49_0); (try clear hcz49_1); (try clear hfz21_0); (try clear hfz21_1); (try clear hfz22_0); (try clear hfz22_1); (try clear hfz24_0); (try clear hfz24_1); (try clear hfz25_0); (try clear hfz25_1); (try clear hfz27_0); (try clear hfz27_1); (try clear hfz28_0); (try clear hfz28_1); (try clear hfz30_0); (try clear hfz30_1); (try clear hfz31_0); (try clear hfz31_1); (try clear hfz33_0); (try clear hfz33_1); (try clear hfz34_0); (try clear hfz34_1); (try clear hfz36_0); (try clear hfz36_1); (try clear hfz37_0); (try clear hfz37_1); (try clear hfz39_0); (try clear hfz39_1); (try clear hfz40_0); (try clear hfz40_1); (try clear hfz42_0); (try clear hfz42_1); (try clear hfz43_0); (try clear hfz43_1); (try clear hfz45_0); (try clear hfz45_1); (try clear hfz46_0); (try clear hfz46_1); (try clear hfz48_0); (try clear hfz48_1); (try clear hfz49_0); (try clear hfz49_1)
                         obtain ⟨x69_9, rfl, HA, HK9, HO_53, BK404, BK405, HB⟩ := hrel
                         cases gk with
                         | zero => exact absurd HA.out (by simp [laws_FnRunnersMeet.l4])
                         | succ k9 =>
                          have H := HA.out
                          clear HA
                          simp only [laws_FnRunnersMeet.l4] at H
                          have HC311 := Aside0.mk H
                          clear H
                          go_upto_region 84 with (fail)
                          go_cut [665] from 660 to 665 (fun v665 wc => ∃ (kq : Nat) (x665_310 : Bool), v665 = .bool x665_310 ∧ Aside0 (laws_FnRunnersMeet.j17 kq t467 t468 t471 t472 x69_9 x665_310 = some r) ∧ Aside0 (kq ≤ k9) ∧ Aside0 (Kd.R k45 45 wc w.heap.size (fun k_ => k_ ≠ gb404 ∧ k_ ≠ gb405) (.slice Ao252 t468.length co252) t468) ∧ Aside0 (wc.heap[gb404]? = some (.cells #[.int .i64 t399, .int .i64 t400] 45 (0, 0))) ∧ Aside0 (wc.heap[gb405]? = some (.cells #[.int .i64 t401, .int .i64 t402] 45 (0, 0))) ∧ Aside0 (Below w.heap.size w wc))
                          case first => as_aux_lemma =>
                           have H := HC311.out
                           clear HC311
                           by_cases c312 : t472 = true
                           ·
                            subst c312
                            rw [if_pos rfl] at H
                            have H' := Aside0.mk H
                            clear H
                            go_wp2
                            go_meet
                            case rel => exact ⟨_, (decide (x69_9 < t471)), (by first | rfl | (simp; done) | (simp [*]; done)), H', ⟨by have := HJ15.out; have := HJ85.out; have := HJ122.out; have := HJ132.out; have := HJ179.out; have := HJ249.out; have := HJ274.out; have := HK8.out; have := HK9.out; first | omega | exact Nat.le_refl _⟩, ⟨by (with_reducible repeat (first | apply Kd.R_alloc | apply Kd.R_drewN | apply Kd.R_drew)); exact HO_53.out⟩, ⟨bk_⟩, ⟨bk_⟩, ⟨bw_⟩⟩
                           ·
                            replace c312 := Bool.eq_false_iff.mpr c312
                            subst c312
                            rw [if_neg (show ¬ (false = true) by decide)] at H
                            have H' := Aside0.mk H
                            clear H
                            go_wp2
                            go_meet
                            case rel => exact ⟨_, (false), (by first | rfl | (simp; done) | (simp [*]; done)), H', ⟨by have := HJ15.out; have := HJ85.out; have := HJ122.out; have := HJ132.out; have := HJ179.out; have := HJ249.out; have := HJ274.out; have := HK8.out; have := HK9.out; first | omega | exact Nat.le_refl _⟩, ⟨by (with_reducible repeat (first | apply Kd.R_alloc | apply Kd.R_drewN | apply Kd.R_drew)); exact HO_53.out⟩, ⟨bk_⟩, ⟨bk_⟩, ⟨bw_⟩⟩
                          case rest => as_aux_lemma =>
                           clear HC311
                           (try clear c1); (try clear c4); (try clear c85); (try clear c132); (try clear c273); (try clear c274); (try clear c282); (try clear c283); (try clear c283b0); (try clear hcz21_0); (try clear hcz21_1); (try clear hcz22_0); (try clear hcz22_1); (try clear hcz24_0); (try clear hcz24_1); (try clear hcz25_0); (try clear hcz25_1); (try clear hcz27_0); (try clear hcz27_1); (try clear hcz28_0); (try clear hcz28_1); (try clear hcz30_0); (try clear hcz30_1); (try clear hcz31_0); (try clear hcz31_1); (try clear hcz33_0); (try clear hcz33_1); (try clear hcz34_0); (try clear hcz34_1); (try clear hcz36_0); (try clear hcz36_1); (try clear hcz37_0); (try clear hcz37_1); (try clear hcz39_0); (try clear hcz39_1); (try clear hcz40_0); (try clear hcz40_1); (try clear hcz42_0); (try clear hcz42_1); (try clear hcz43_0); (try clear hcz43_1); (try clear hcz45_0); (try clear hcz45_1); (try clear hcz46_0); (try clear hcz46_1); (try clear hcz48_0); (try clear hcz48_1); (try clear hcz49_0); (try clear hcz49_1); (try clear hfz21_0); (try clear hfz21_1); (try clear hfz22_0); (try clear hfz22_1); (try clear hfz24_0); (try clear hfz24_1); (try clear hfz25_0); (try clear hfz25_1); (try clear hfz27_0); (try clear hfz27_1); (try clear hfz28_0); (try clear hfz28_1); (try clear hfz30_0); (try clear hfz30_1); (try clear hfz31_0); (try clear hfz31_1); (try clear hfz33_0); (try clear hfz33_1); (try clear hfz34_0); (try clear hfz34_1); (try clear hfz36_0); (try clear hfz36_1); (try clear hfz37_0); (try clear hfz37_1); (try clear hfz39_0); (try clear hfz39_1); (try clear hfz40_0); (try clear hfz40_1); (try clear hfz42_0); (try clear hfz42_1); (try clear hfz43_0); (try clear hfz43_1); (try clear hfz45_0); (try clear hfz45_1); (try clear hfz46_0); (try clear hfz46_1); (try clear hfz48_0); (try clear hfz48_1); (try clear hfz49_0); (try clear hfz49_1)
                           obtain ⟨kq, x665_310, rfl, HA, HJ310, HO_53, BK404, BK405, HB⟩ := hcut
                           cases kq with
                           | zero => exact absurd HA.out (by simp [laws_FnRunnersMeet.j17])
                           | succ kj310 =>
                            have H := HA.out
                            clear HA
                            simp only [laws_FnRunnersMeet.j17] at H
                            by_cases c313 : x665_310 = true
                            ·
                             subst c313
                             rw [if_pos rfl] at H
                             have H' := Aside0.mk H
                             clear H
                             go_wp2
                             go_loopg [70, 670] kj310 (fun kq v70 v670 w' => ∃ (x70_11 : Bool) (x670_11 : Int), v70 = .bool x70_11 ∧ v670 = .int .i64 x670_11 ∧ Aside0 (laws_FnRunnersMeet.l5 kq t467 t468 t471 t472 x69_9 x70_11 t468 (t468.length : Int) x670_11 = some r) ∧ Aside0 (kq ≤ kj310) ∧ Aside0 (Kd.R k45 45 w' w.heap.size (fun k_ => k_ ≠ gb404 ∧ k_ ≠ gb405) (.slice Ao252 t468.length co252) t468) ∧ Aside0 (Kd.R k45 45 w' w.heap.size (fun k_ => k_ ≠ gb404 ∧ k_ ≠ gb405) (.slice Ao252 t468.length co252) t468) ∧ Aside0 (w'.heap[gb404]? = some (.cells #[.int .i64 t399, .int .i64 t400] 45 (0, 0))) ∧ Aside0 (w'.heap[gb405]? = some (.cells #[.int .i64 t401, .int .i64 t402] 45 (0, 0))) ∧ Aside0 (Below w.heap.size w w'))
                             case atStart => exact ⟨(false), (0), (by first | rfl | (simp; done) | (simp [*]; done)), (by first | rfl | (simp; done) | (simp [*]; done)), H', ⟨Nat.le_refl _⟩, ⟨by (with_reducible repeat (first | apply Kd.R_alloc | apply Kd.R_drewN | apply Kd.R_drew)); exact HO_53.out⟩, ⟨by (with_reducible repeat (first | apply Kd.R_alloc | apply Kd.R_drewN | apply Kd.R_drew)); exact HO_53.out⟩, ⟨bk_⟩, ⟨bk_⟩, ⟨bw_⟩⟩
                             case round => as_aux_lemma =>
                              clear H'
                              (try clear c1); (try clear c4); (try clear c85); (try clear c132); (try clear c273); (try clear c274); (try clear c282); (try clear c283); (try clear c283b0); (try clear c313); (try clear hcz21_0); (try clear hcz21_1); (try clear hcz22_0); (try clear hcz22_1); (try clear hcz24_0); (try clear hcz24_1); (try clear hcz25_0); (try clear hcz25_1); (try clear hcz27_0); (try clear hcz27_1); (try clear hcz28_0); (try clear hcz28_1); (try clear hcz30_0); (try clear hcz30_1); (try clear hcz31_0); (try clear hcz31_1); (try clear hcz33_0); (try clear hcz33_1); (try clear hcz34_0); (try clear hcz34_1); (try clear hcz36_0); (try clear hcz36_1); (try clear hcz37_0); (try clear hcz37_1); (try clear hcz39_0); (try clear hcz39_1); (try clear hcz40_0); (try clear hcz40_1); (try clear hcz42_0); (try clear hcz42_1); (try clear hcz43_0); (try clear hcz43_1); (try clear hcz45_0); (try clear hcz45_1); (try clear hcz46_0); (try clear hcz46_1); (try clear hcz48_0); (try clear hcz48_1); (try clear hcz49_0); (try clear hcz49_1); (try clear hfz21_0); (try clear hfz21_1); (try clear hfz22_0); (try clear hfz22_1); (try clear hfz24_0); (try clear hfz24_1); (try clear hfz25_0); (try clear hfz25_1); (try clear hfz27_0); (try clear hfz27_1); (try clear hfz28_0); (try clear hfz28_1); (try clear hfz30_0); (try clear hfz30_1); (try clear hfz31_0); (try clear hfz31_1); (try clear hfz33_0); (try clear hfz33_1); (try clear hfz34_0); (try clear hfz34_1); (try clear hfz36_0); (try clear hfz36_1); (try clear hfz37_0); (try clear hfz37_1); (try clear hfz39_0); (try clear hfz39_1); (try clear hfz40_0); (try clear hfz40_1); (try clear hfz42_0); (try clear hfz42_1); (try clear hfz43_0); (try clear hfz43_1); (try clear hfz45_0); (try clear hfz45_1); (try clear hfz46_0); (try clear hfz46_1); (try clear hfz48_0); (try clear hfz48_1); (try clear hfz49_0); (try clear hfz49_1)
                              obtain ⟨x70_11, x670_11, rfl, rfl, HA, HK11, HO_53, HO_668, BK404, BK405, HB⟩ := hrel
                              cases gk with
                              | zero => exact absurd HA.out (by simp [laws_FnRunnersMeet.l5])
                              | succ k11 =>
                               have H := HA.out
                               clear HA
                               simp only [laws_FnRunnersMeet.l5] at H
                               by_cases c314 : x670_11 < (t468.length : Int)
                               ·
                                rw [if_pos c314] at H
                                have c314b0 : decide (x670_11 < (t468.length : Int)) = true := decide_eq_true c314
                                clear c314
                                by_cases c315 : 0 ≤ x670_11
                                ·
                                 rw [if_pos c315] at H
                                 have c315b0 : decide (0 ≤ x670_11) = true := decide_eq_true c315
                                 clear c315
                                 by_cases c316 : x670_11 < (t468.length : Int)
                                 ·
                                  rw [if_pos c316] at H
                                  have c316b0 : decide (x670_11 < (t468.length : Int)) = true := decide_eq_true c316
                                  clear c316
                                  replace H := Option.bind_eq_some_iff.mp H
                                  obtain ⟨⟨t490, t491⟩, A3170, H⟩ := H
                                  (try dsimp only at H)
                                  have A317 := Aside0.mk A3170
                                  clear A3170
                                  by_cases c318 : 0 < (t468.length : Int)
                                  ·
                                   rw [if_pos c318] at H
                                   have c318b0 : decide (0 < (t468.length : Int)) = true := decide_eq_true c318
                                   have c318b1 : decide (0 < t468.length) = true := decide_eq_true (by omega)
                                   clear c318
                                   replace H := Option.bind_eq_some_iff.mp H
                                   obtain ⟨⟨t493, t494⟩, A3190, H⟩ := H
                                   (try dsimp only at H)
                                   have A319 := Aside0.mk A3190
                                   clear A3190
                                   by_cases c320 : t491 = true
                                   ·
                                    subst c320
                                    rw [if_pos rfl] at H
                                    by_cases c321 : t494 = true
                                    ·
                                     subst c321
                                     rw [if_pos rfl] at H
                                     by_cases c322 : x70_11 = true
                                     ·
                                      subst c322
                                      rw [if_pos rfl] at H
                                      have H' := Aside0.mk H
                                      clear H
                                      have p488 : 0 ≤ (x670_11 : Int) := of_decide_eq_true (by first | (with_reducible assumption) | assumption)
                                      have q488 : x670_11 < (t468.length : Int) := of_decide_eq_true (by first | (with_reducible assumption) | assumption)
                                      obtain ⟨ad488, e488, hx488_0, hx488_1⟩ := at_T45 (Kd.R_reads' HO_668.out).2.2 x670_11 p488 q488
                                      cases e488
                                      replace p488 := eq_true p488
                                      replace q488 := eq_true q488
                                      go_wp2_with (first | ((with_reducible refine gate_dst (N := 72) rfl ?_); (try (refine gate_guard (by rfl) ?_; dsimp only)); refine box_event ?hg (N := 72) ?hd (cs := #[.int .i64 0, .int .i64 0]) (t := 45) ?hr ?_; (case hd => rfl); (case hg => rfl); (case hr => first | (go_simp; done) | (go_simp; rfl)); intro gb489 hg w323 hbox hb; have n0_ := Aside0.mk (Kd.R_below (Kd.R_elderB (by (with_reducible repeat (first | apply Kd.R_alloc | apply Kd.R_drewN | apply Kd.R_drew)); exact HO_53.out) gb489 (Nat.le_of_eq hg.symm)) hb); have n1_ := Aside0.mk (Kd.R_below (Kd.R_elderB (by (with_reducible repeat (first | apply Kd.R_alloc | apply Kd.R_drewN | apply Kd.R_drew)); exact HO_668.out) gb489 (Nat.le_of_eq hg.symm)) hb); have n2_ := Aside0.mk (blk_below (g := gb404) (o := .cells #[.int .i64 t399, .int .i64 t400] 45 (0, 0)) bk_ hb); have n3_ := Aside0.mk (blk_below (g := gb405) (o := .cells #[.int .i64 t401, .int .i64 t402] 45 (0, 0)) bk_ hb); have n4_ := Aside0.mk (below_step bw_ hb); have n5_ := Aside0.mk (hbox); have n6_ := Aside0.mk ((by rw [hg]; exact (below_size bw_) : w.heap.size ≤ gb489)); have n7_ := Aside0.mk ((by rw [hg]; exact (below_size bw_) : w.heap.size ≤ gb489)); have n8_ := Aside0.mk ((by rw [hg]; exact Nat.ne_of_lt (blk_lt (g := gb404) (o := .cells #[.int .i64 t399, .int .i64 t400] 45 (0, 0)) bk_) : gb404 ≠ gb489)); have n9_ := Aside0.mk ((by rw [hg]; exact Nat.ne_of_gt (blk_lt (g := gb404) (o := .cells #[.int .i64 t399, .int .i64 t400] 45 (0, 0)) bk_) : gb489 ≠ gb404)); have n10_ := Aside0.mk ((by rw [hg]; exact Nat.ne_of_lt (blk_lt (g := gb405) (o := .cells #[.int .i64 t401, .int .i64 t402] 45 (0, 0)) bk_) : gb405 ≠ gb489)); have n11_ := Aside0.mk ((by rw [hg]; exact Nat.ne_of_gt (blk_lt (g := gb405) (o := .cells #[.int .i64 t401, .int .i64 t402] 45 (0, 0)) bk_) : gb489 ≠ gb405)); clear HO_53; clear HO_668; clear BK404; clear BK405; clear HB; have HO_53 := n0_; have HO_668 := n1_; have BK404 := n2_; have BK405 := n3_; have HB := n4_; have BK489 := n5_; have GW489 := n6_; have GE489 := n7_; have NB404_489 := n8_; have NB489_404 := n9_; have NB405_489 := n10_; have NB489_405 := n11_; clear n0_ n1_ n2_ n3_ n4_ n5_ n6_ n7_ n8_ n9_ n10_ n11_; clear hb hbox hg; have hnb324 := NB489_404.out; have hnc324 := NB404_489.out; have hnb325 := NB489_405.out; have hnc325 := NB405_489.out; have hcz326_0 : w323.cell? ⟨gb489, 0, none⟩ = some (.int .i64 0) := (blk_cell BK489.out 0).trans rfl; have hcz326_1 : w323.cell? ⟨gb489, 1, none⟩ = some (.int .i64 0) := (blk_cell BK489.out 1).trans rfl; have hfz326_0 := blk_frozen BK489.out 0; have hfz326_1 := blk_frozen BK489.out 1) | ((with_reducible refine gate_callee (f := 34) rfl ?_); refine goesL_ (some 678) rfl rfl Try.func34 (by kernel_rfl) rfl #[.int .i64 t467, .agg #[.int .i64 ((rd_T45 t468 x670_11).f0), .int .i64 ((rd_T45 t468 x670_11).f1)], .int .i64 x69_9] rfl (by (try simp only [List.map_toArray, List.map_cons, List.map_nil]); first | done | rfl | (simp only [List.length_drop, List.length_take]; rfl)) ?_; (with_reducible refine (impl_PlaceOnTrack.calls t467 ((rd_T45 t468 x670_11).f0) ((rd_T45 t468 x670_11).f1) x69_9 t490 true _ A317.out).mono ?_); rintro e w327 ⟨rfl, hb⟩; refine ⟨_, rfl, ?_⟩; have n0_ := Aside0.mk (Kd.R_below (by (with_reducible repeat (first | apply Kd.R_alloc | apply Kd.R_drewN | apply Kd.R_drew)); exact (Kd.R_mono (Kd.R_far (p := ⟨gb489, 1, none⟩) (Kd.R_far (p := ⟨gb489, 0, none⟩) (Kd.R_mono HO_53.out (fun k_ hk => (⟨hk, hk.2⟩ : _ ∧ k_ ≠ gb489))) (fun _ hk => hk.2) (.int .i64 ((rd_T45 t468 x670_11).f0))) (fun _ hk => hk.2) (.int .i64 ((rd_T45 t468 x670_11).f1))) (fun _ h_ => h_.1))) hb); have n1_ := Aside0.mk (Kd.R_below (by (with_reducible repeat (first | apply Kd.R_alloc | apply Kd.R_drewN | apply Kd.R_drew)); exact (Kd.R_mono (Kd.R_far (p := ⟨gb489, 1, none⟩) (Kd.R_far (p := ⟨gb489, 0, none⟩) (Kd.R_mono HO_668.out (fun k_ hk => (⟨hk, hk.2⟩ : _ ∧ k_ ≠ gb489))) (fun _ hk => hk.2) (.int .i64 ((rd_T45 t468 x670_11).f0))) (fun _ hk => hk.2) (.int .i64 ((rd_T45 t468 x670_11).f1))) (fun _ h_ => h_.1))) hb); have n2_ := Aside0.mk (blk_below (g := gb404) (o := .cells #[.int .i64 t399, .int .i64 t400] 45 (0, 0)) (by (with_reducible repeat (first | refine blk_drewN ?_ _ | refine blk_drew ?_ | refine blk_alloc ?_ _)); refine blk_far ?_ NB404_489.out _; (with_reducible repeat (first | refine blk_drewN ?_ _ | refine blk_drew ?_ | refine blk_alloc ?_ _)); refine blk_far ?_ NB404_489.out _; (with_reducible repeat (first | refine blk_drewN ?_ _ | refine blk_drew ?_ | refine blk_alloc ?_ _)); exact BK404.out) hb); have n3_ := Aside0.mk (blk_below (g := gb405) (o := .cells #[.int .i64 t401, .int .i64 t402] 45 (0, 0)) (by (with_reducible repeat (first | refine blk_drewN ?_ _ | refine blk_drew ?_ | refine blk_alloc ?_ _)); refine blk_far ?_ NB405_489.out _; (with_reducible repeat (first | refine blk_drewN ?_ _ | refine blk_drew ?_ | refine blk_alloc ?_ _)); refine blk_far ?_ NB405_489.out _; (with_reducible repeat (first | refine blk_drewN ?_ _ | refine blk_drew ?_ | refine blk_alloc ?_ _)); exact BK405.out) hb); have n4_ := Aside0.mk (blk_below (g := gb489) (o := .cells #[.int .i64 ((rd_T45 t468 x670_11).f0), .int .i64 ((rd_T45 t468 x670_11).f1)] 45 (0, 0)) (by (with_reducible repeat (first | refine blk_drewN ?_ _ | refine blk_drew ?_ | refine blk_alloc ?_ _)); refine blk_put (cs := #[.int .i64 ((rd_T45 t468 x670_11).f0), .int .i64 0]) ?_ 1 _ rfl; (with_reducible repeat (first | refine blk_drewN ?_ _ | refine blk_drew ?_ | refine blk_alloc ?_ _)); refine blk_put (cs := #[.int .i64 0, .int .i64 0]) ?_ 0 _ rfl; (with_reducible repeat (first | refine blk_drewN ?_ _ | refine blk_drew ?_ | refine blk_alloc ?_ _)); exact BK489.out) hb); have n5_ := Aside0.mk (below_step bw_ hb); clear HO_53; clear HO_668; clear BK404; clear BK405; clear BK489; clear HB; have HO_53 := n0_; have HO_668 := n1_; have BK404 := n2_; have BK405 := n3_; have BK489 := n4_; have HB := n5_; clear n0_ n1_ n2_ n3_ n4_ n5_; (try clear hb); (try clear hb2); (try clear hk); (try clear hi); have p492 : 0 ≤ (0 : Int) := (by omega); have q492 : 0 < (t468.length : Int) := of_decide_eq_true (by first | (with_reducible assumption) | assumption); obtain ⟨ad492, e492, hx492_0, hx492_1⟩ := at_T45 (Kd.R_reads' HO_53.out).2.2 0 p492 q492; obtain rfl : ad488 = ad492 := (by injection e492); have qi492 : (0 < t468.length) = True := eq_true (by omega); (try rw [show ((0 : Int)).toNat = 0 from rfl] at hx492_0); (try rw [show 0 * 2 = 0 from rfl] at hx492_0); (try rw [Addr.add_zero'] at hx492_0); (try rw [show ((0 : Int)).toNat = 0 from rfl] at hx492_1); (try rw [show 0 * 2 = 0 from rfl] at hx492_1); (try rw [Addr.add_zero'] at hx492_1); replace p492 := eq_true p492; replace q492 := eq_true q492) | ((with_reducible refine gate_callee (f := 34) rfl ?_); refine goesL_ (some 687) rfl rfl Try.func34 (by kernel_rfl) rfl #[.int .i64 t467, .agg #[.int .i64 ((rd_T45 t468 0).f0), .int .i64 ((rd_T45 t468 0).f1)], .int .i64 x69_9] rfl (by (try simp only [List.map_toArray, List.map_cons, List.map_nil]); first | done | rfl | (simp only [List.length_drop, List.length_take]; rfl)) ?_; (with_reducible refine (impl_PlaceOnTrack.calls t467 ((rd_T45 t468 0).f0) ((rd_T45 t468 0).f1) x69_9 t493 true _ A319.out).mono ?_); rintro e w328 ⟨rfl, hb⟩; refine ⟨_, rfl, ?_⟩; have n0_ := Aside0.mk (Kd.R_below (by (with_reducible repeat (first | apply Kd.R_alloc | apply Kd.R_drewN | apply Kd.R_drew)); exact HO_53.out) hb); have n1_ := Aside0.mk (Kd.R_below (by (with_reducible repeat (first | apply Kd.R_alloc | apply Kd.R_drewN | apply Kd.R_drew)); exact HO_668.out) hb); have n2_ := Aside0.mk (blk_below (g := gb404) (o := .cells #[.int .i64 t399, .int .i64 t400] 45 (0, 0)) bk_ hb); have n3_ := Aside0.mk (blk_below (g := gb405) (o := .cells #[.int .i64 t401, .int .i64 t402] 45 (0, 0)) bk_ hb); have n4_ := Aside0.mk (blk_below (g := gb489) (o := .cells #[.int .i64 ((rd_T45 t468 x670_11).f0), .int .i64 ((rd_T45 t468 x670_11).f1)] 45 (0, 0)) bk_ hb); have n5_ := Aside0.mk (below_step bw_ hb); clear HO_53; clear HO_668; clear BK404; clear BK405; clear BK489; clear HB; have HO_53 := n0_; have HO_668 := n1_; have BK404 := n2_; have BK405 := n3_; have BK489 := n4_; have HB := n5_; clear n0_ n1_ n2_ n3_ n4_ n5_; (try clear hb); (try clear hb2); (try clear hk); (try clear hi)))
                                      go_roundg k11
                                      case measure => have := HJ15.out; have := HJ85.out; have := HJ122.out; have := HJ132.out; have := HJ179.out; have := HJ249.out; have := HJ274.out; have := HK8.out; have := HK9.out; have := HJ310.out; have := HK11.out; omega
                                      case rel => exact ⟨(true), (wrap64 (x670_11 + 1)), (by first | rfl | (simp; done) | (simp [*]; done)), (by first | rfl | (simp; done) | (simp [*]; done)), H', ⟨by have := HJ15.out; have := HJ85.out; have := HJ122.out; have := HJ132.out; have := HJ179.out; have := HJ249.out; have := HJ274.out; have := HK8.out; have := HK9.out; have := HJ310.out; have := HK11.out; omega⟩, ⟨by (with_reducible repeat (first | apply Kd.R_alloc | apply Kd.R_drewN | apply Kd.R_drew)); exact Kd.R_mono HO_53.out (fun _ hk => ⟨hk.1.1, hk.1.2⟩)⟩, ⟨by (with_reducible repeat (first | apply Kd.R_alloc | apply Kd.R_drewN | apply Kd.R_drew)); exact Kd.R_mono HO_668.out (fun _ hk => ⟨hk.1.1, hk.1.2⟩)⟩, ⟨bk_⟩, ⟨bk_⟩, ⟨bw_⟩⟩
                                     ·
                                      replace c322 := Bool.eq_false_iff.mpr c322
                                      subst c322
                                      rw [if_neg (show ¬ (false = true) by decide)] at H
                                      have H' := Aside0.mk H
                                      clear H
                                      have p488 : 0 ≤ (x670_11 : Int) := of_decide_eq_true (by first | (with_reducible assumption) | assumption)
                                      have q488 : x670_11 < (t468.length : Int) := of_decide_eq_true (by first | (with_reducible assumption) | assumption)
                                      obtain ⟨ad488, e488, hx488_0, hx488_1⟩ := at_T45 (Kd.R_reads' HO_668.out).2.2 x670_11 p488 q488
                                      cases e488
                                      replace p488 := eq_true p488
                                      replace q488 := eq_true q488
                                      go_wp2_with (first | ((with_reducible refine gate_dst (N := 72) rfl ?_); (try (refine gate_guard (by rfl) ?_; dsimp only)); refine box_event ?hg (N := 72) ?hd (cs := #[.int .i64 0, .int .i64 0]) (t := 45) ?hr ?_; (case hd => rfl); (case hg => rfl); (case hr => first | (go_simp; done) | (go_simp; rfl)); intro gb489 hg w329 hbox hb; have n0_ := Aside0.mk (Kd.R_below (Kd.R_elderB (by (with_reducible repeat (first | apply Kd.R_alloc | apply Kd.R_drewN | apply Kd.R_drew)); exact HO_53.out) gb489 (Nat.le_of_eq hg.symm)) hb); have n1_ := Aside0.mk (Kd.R_below (Kd.R_elderB (by (with_reducible repeat (first | apply Kd.R_alloc | apply Kd.R_drewN | apply Kd.R_drew)); exact HO_668.out) gb489 (Nat.le_of_eq hg.symm)) hb); have n2_ := Aside0.mk (blk_below (g := gb404) (o := .cells #[.int .i64 t399, .int .i64 t400] 45 (0, 0)) bk_ hb); have n3_ := Aside0.mk (blk_below (g := gb405) (o := .cells #[.int .i64 t401, .int .i64 t402] 45 (0, 0)) bk_ hb); have n4_ := Aside0.mk (below_step bw_ hb); have n5_ := Aside0.mk (hbox); have n6_ := Aside0.mk ((by rw [hg]; exact (below_size bw_) : w.heap.size ≤ gb489)); have n7_ := Aside0.mk ((by rw [hg]; exact (below_size bw_) : w.heap.size ≤ gb489)); have n8_ := Aside0.mk ((by rw [hg]; exact Nat.ne_of_lt (blk_lt (g := gb404) (o := .cells #[.int .i64 t399, .int .i64 t400] 45 (0, 0)) bk_) : gb404 ≠ gb489)); have n9_ := Aside0.mk ((by rw [hg]; exact Nat.ne_of_gt (blk_lt (g := gb404) (o := .cells #[.int .i64 t399, .int .i64 t400] 45 (0, 0)) bk_) : gb489 ≠ gb404)); have n10_ := Aside0.mk ((by rw [hg]; exact Nat.ne_of_lt (blk_lt (g := gb405) (o := .cells #[.int .i64 t401, .int .i64 t402] 45 (0, 0)) bk_) : gb405 ≠ gb489)); have n11_ := Aside0.mk ((by rw [hg]; exact Nat.ne_of_gt (blk_lt (g := gb405) (o := .cells #[.int .i64 t401, .int .i64 t402] 45 (0, 0)) bk_) : gb489 ≠ gb405)); clear HO_53; clear HO_668; clear BK404; clear BK405; clear HB; have HO_53 := n0_; have HO_668 := n1_; have BK404 := n2_; have BK405 := n3_; have HB := n4_; have BK489 := n5_; have GW489 := n6_; have GE489 := n7_; have NB404_489 := n8_; have NB489_404 := n9_; have NB405_489 := n10_; have NB489_405 := n11_; clear n0_ n1_ n2_ n3_ n4_ n5_ n6_ n7_ n8_ n9_ n10_ n11_; clear hb hbox hg; have hnb330 := NB489_404.out; have hnc330 := NB404_489.out; have hnb331 := NB489_405.out; have hnc331 := NB405_489.out; have hcz332_0 : w329.cell? ⟨gb489, 0, none⟩ = some (.int .i64 0) := (blk_cell BK489.out 0).trans rfl; have hcz332_1 : w329.cell? ⟨gb489, 1, none⟩ = some (.int .i64 0) := (blk_cell BK489.out 1).trans rfl; have hfz332_0 := blk_frozen BK489.out 0; have hfz332_1 := blk_frozen BK489.out 1) | ((with_reducible refine gate_callee (f := 34) rfl ?_); refine goesL_ (some 678) rfl rfl Try.func34 (by kernel_rfl) rfl #[.int .i64 t467, .agg #[.int .i64 ((rd_T45 t468 x670_11).f0), .int .i64 ((rd_T45 t468 x670_11).f1)], .int .i64 x69_9] rfl (by (try simp only [List.map_toArray, List.map_cons, List.map_nil]); first | done | rfl | (simp only [List.length_drop, List.length_take]; rfl)) ?_; (with_reducible refine (impl_PlaceOnTrack.calls t467 ((rd_T45 t468 x670_11).f0) ((rd_T45 t468 x670_11).f1) x69_9 t490 true _ A317.out).mono ?_); rintro e w333 ⟨rfl, hb⟩; refine ⟨_, rfl, ?_⟩; have n0_ := Aside0.mk (Kd.R_below (by (with_reducible repeat (first | apply Kd.R_alloc | apply Kd.R_drewN | apply Kd.R_drew)); exact (Kd.R_mono (Kd.R_far (p := ⟨gb489, 1, none⟩) (Kd.R_far (p := ⟨gb489, 0, none⟩) (Kd.R_mono HO_53.out (fun k_ hk => (⟨hk, hk.2⟩ : _ ∧ k_ ≠ gb489))) (fun _ hk => hk.2) (.int .i64 ((rd_T45 t468 x670_11).f0))) (fun _ hk => hk.2) (.int .i64 ((rd_T45 t468 x670_11).f1))) (fun _ h_ => h_.1))) hb); have n1_ := Aside0.mk (Kd.R_below (by (with_reducible repeat (first | apply Kd.R_alloc | apply Kd.R_drewN | apply Kd.R_drew)); exact (Kd.R_mono (Kd.R_far (p := ⟨gb489, 1, none⟩) (Kd.R_far (p := ⟨gb489, 0, none⟩) (Kd.R_mono HO_668.out (fun k_ hk => (⟨hk, hk.2⟩ : _ ∧ k_ ≠ gb489))) (fun _ hk => hk.2) (.int .i64 ((rd_T45 t468 x670_11).f0))) (fun _ hk => hk.2) (.int .i64 ((rd_T45 t468 x670_11).f1))) (fun _ h_ => h_.1))) hb); have n2_ := Aside0.mk (blk_below (g := gb404) (o := .cells #[.int .i64 t399, .int .i64 t400] 45 (0, 0)) (by (with_reducible repeat (first | refine blk_drewN ?_ _ | refine blk_drew ?_ | refine blk_alloc ?_ _)); refine blk_far ?_ NB404_489.out _; (with_reducible repeat (first | refine blk_drewN ?_ _ | refine blk_drew ?_ | refine blk_alloc ?_ _)); refine blk_far ?_ NB404_489.out _; (with_reducible repeat (first | refine blk_drewN ?_ _ | refine blk_drew ?_ | refine blk_alloc ?_ _)); exact BK404.out) hb); have n3_ := Aside0.mk (blk_below (g := gb405) (o := .cells #[.int .i64 t401, .int .i64 t402] 45 (0, 0)) (by (with_reducible repeat (first | refine blk_drewN ?_ _ | refine blk_drew ?_ | refine blk_alloc ?_ _)); refine blk_far ?_ NB405_489.out _; (with_reducible repeat (first | refine blk_drewN ?_ _ | refine blk_drew ?_ | refine blk_alloc ?_ _)); refine blk_far ?_ NB405_489.out _; (with_reducible repeat (first | refine blk_drewN ?_ _ | refine blk_drew ?_ | refine blk_alloc ?_ _)); exact BK405.out) hb); have n4_ := Aside0.mk (blk_below (g := gb489) (o := .cells #[.int .i64 ((rd_T45 t468 x670_11).f0), .int .i64 ((rd_T45 t468 x670_11).f1)] 45 (0, 0)) (by (with_reducible repeat (first | refine blk_drewN ?_ _ | refine blk_drew ?_ | refine blk_alloc ?_ _)); refine blk_put (cs := #[.int .i64 ((rd_T45 t468 x670_11).f0), .int .i64 0]) ?_ 1 _ rfl; (with_reducible repeat (first | refine blk_drewN ?_ _ | refine blk_drew ?_ | refine blk_alloc ?_ _)); refine blk_put (cs := #[.int .i64 0, .int .i64 0]) ?_ 0 _ rfl; (with_reducible repeat (first | refine blk_drewN ?_ _ | refine blk_drew ?_ | refine blk_alloc ?_ _)); exact BK489.out) hb); have n5_ := Aside0.mk (below_step bw_ hb); clear HO_53; clear HO_668; clear BK404; clear BK405; clear BK489; clear HB; have HO_53 := n0_; have HO_668 := n1_; have BK404 := n2_; have BK405 := n3_; have BK489 := n4_; have HB := n5_; clear n0_ n1_ n2_ n3_ n4_ n5_; (try clear hb); (try clear hb2); (try clear hk); (try clear hi); have p492 : 0 ≤ (0 : Int) := (by omega); have q492 : 0 < (t468.length : Int) := of_decide_eq_true (by first | (with_reducible assumption) | assumption); obtain ⟨ad492, e492, hx492_0, hx492_1⟩ := at_T45 (Kd.R_reads' HO_53.out).2.2 0 p492 q492; obtain rfl : ad488 = ad492 := (by injection e492); have qi492 : (0 < t468.length) = True := eq_true (by omega); (try rw [show ((0 : Int)).toNat = 0 from rfl] at hx492_0); (try rw [show 0 * 2 = 0 from rfl] at hx492_0); (try rw [Addr.add_zero'] at hx492_0); (try rw [show ((0 : Int)).toNat = 0 from rfl] at hx492_1); (try rw [show 0 * 2 = 0 from rfl] at hx492_1); (try rw [Addr.add_zero'] at hx492_1); replace p492 := eq_true p492; replace q492 := eq_true q492) | ((with_reducible refine gate_callee (f := 34) rfl ?_); refine goesL_ (some 687) rfl rfl Try.func34 (by kernel_rfl) rfl #[.int .i64 t467, .agg #[.int .i64 ((rd_T45 t468 0).f0), .int .i64 ((rd_T45 t468 0).f1)], .int .i64 x69_9] rfl (by (try simp only [List.map_toArray, List.map_cons, List.map_nil]); first | done | rfl | (simp only [List.length_drop, List.length_take]; rfl)) ?_; (with_reducible refine (impl_PlaceOnTrack.calls t467 ((rd_T45 t468 0).f0) ((rd_T45 t468 0).f1) x69_9 t493 true _ A319.out).mono ?_); rintro e w334 ⟨rfl, hb⟩; refine ⟨_, rfl, ?_⟩; have n0_ := Aside0.mk (Kd.R_below (by (with_reducible repeat (first | apply Kd.R_alloc | apply Kd.R_drewN | apply Kd.R_drew)); exact HO_53.out) hb); have n1_ := Aside0.mk (Kd.R_below (by (with_reducible repeat (first | apply Kd.R_alloc | apply Kd.R_drewN | apply Kd.R_drew)); exact HO_668.out) hb); have n2_ := Aside0.mk (blk_below (g := gb404) (o := .cells #[.int .i64 t399, .int .i64 t400] 45 (0, 0)) bk_ hb); have n3_ := Aside0.mk (blk_below (g := gb405) (o := .cells #[.int .i64 t401, .int .i64 t402] 45 (0, 0)) bk_ hb); have n4_ := Aside0.mk (blk_below (g := gb489) (o := .cells #[.int .i64 ((rd_T45 t468 x670_11).f0), .int .i64 ((rd_T45 t468 x670_11).f1)] 45 (0, 0)) bk_ hb); have n5_ := Aside0.mk (below_step bw_ hb); clear HO_53; clear HO_668; clear BK404; clear BK405; clear BK489; clear HB; have HO_53 := n0_; have HO_668 := n1_; have BK404 := n2_; have BK405 := n3_; have BK489 := n4_; have HB := n5_; clear n0_ n1_ n2_ n3_ n4_ n5_; (try clear hb); (try clear hb2); (try clear hk); (try clear hi)))
                                      go_roundg k11
                                      case measure => have := HJ15.out; have := HJ85.out; have := HJ122.out; have := HJ132.out; have := HJ179.out; have := HJ249.out; have := HJ274.out; have := HK8.out; have := HK9.out; have := HJ310.out; have := HK11.out; omega
                                      case rel => exact ⟨((t490 != t493)), (wrap64 (x670_11 + 1)), (by first | rfl | (simp; done) | (simp [*]; done)), (by first | rfl | (simp; done) | (simp [*]; done)), H', ⟨by have := HJ15.out; have := HJ85.out; have := HJ122.out; have := HJ132.out; have := HJ179.out; have := HJ249.out; have := HJ274.out; have := HK8.out; have := HK9.out; have := HJ310.out; have := HK11.out; omega⟩, ⟨by (with_reducible repeat (first | apply Kd.R_alloc | apply Kd.R_drewN | apply Kd.R_drew)); exact Kd.R_mono HO_53.out (fun _ hk => ⟨hk.1.1, hk.1.2⟩)⟩, ⟨by (with_reducible repeat (first | apply Kd.R_alloc | apply Kd.R_drewN | apply Kd.R_drew)); exact Kd.R_mono HO_668.out (fun _ hk => ⟨hk.1.1, hk.1.2⟩)⟩, ⟨bk_⟩, ⟨bk_⟩, ⟨bw_⟩⟩
                                    ·
                                     replace c321 := Bool.eq_false_iff.mpr c321
                                     subst c321
                                     rw [if_neg (show ¬ (false = true) by decide)] at H
                                     exact absurd ((Option.some.inj H).trans HRT.out) (by decide)
                                   ·
                                    replace c320 := Bool.eq_false_iff.mpr c320
                                    subst c320
                                    rw [if_neg (show ¬ (false = true) by decide)] at H
                                    exact absurd ((Option.some.inj H).trans HRT.out) (by decide)
                                  ·
                                   rw [if_neg c318] at H
                                   exact absurd H (by simp)
                                 ·
                                  rw [if_neg c316] at H
                                  exact absurd H (by simp)
                                ·
                                 rw [if_neg c315] at H
                                 exact absurd H (by simp)
                               ·
                                rw [if_neg c314] at H
                                have c314b0 : decide (x670_11 < (t468.length : Int)) = false := decide_eq_false c314
                                clear c314
                                by_cases c335 : x70_11 = true
                                ·
                                 subst c335
                                 rw [if_pos rfl] at H
                                 have H' := Aside0.mk H
                                 clear H
                                 go_wp2
                                 go_roundg k11
                                 case measure => have := HJ15.out; have := HJ85.out; have := HJ122.out; have := HJ132.out; have := HJ179.out; have := HJ249.out; have := HJ274.out; have := HK8.out; have := HK9.out; have := HJ310.out; have := HK11.out; omega
                                 case rel => exact ⟨(wrap64 (x69_9 + 1)), (by first | rfl | (simp; done) | (simp [*]; done)), H', ⟨by have := HJ15.out; have := HJ85.out; have := HJ122.out; have := HJ132.out; have := HJ179.out; have := HJ249.out; have := HJ274.out; have := HK8.out; have := HK9.out; have := HJ310.out; have := HK11.out; omega⟩, ⟨by (with_reducible repeat (first | apply Kd.R_alloc | apply Kd.R_drewN | apply Kd.R_drew)); exact HO_53.out⟩, ⟨bk_⟩, ⟨bk_⟩, ⟨bw_⟩⟩
                                ·
                                 replace c335 := Bool.eq_false_iff.mpr c335
                                 subst c335
                                 rw [if_neg (show ¬ (false = true) by decide)] at H
                                 exact absurd ((Option.some.inj H).trans HRT.out) (by decide)
                            ·
                             replace c313 := Bool.eq_false_iff.mpr c313
                             subst c313
                             rw [if_neg (show ¬ (false = true) by decide)] at H
                             obtain rfl := Option.some.inj H
                             go_wp2
                             go_ret
                             exact ⟨by first | rfl | (simp [errW_none, errW_some] <;> rfl) | (simp [*, errW_none, errW_some] <;> rfl), by repeat (first | (with_reducible first | exact HB.out | apply below_alloc | apply pw_below_drewN | apply below_drew1 | refine below_set ?_ GE404.out | refine below_set ?_ GE405.out) | exact HB.out)⟩
                 ·
                  replace c274 := Bool.eq_false_iff.mpr c274
                  subst c274
                  rw [if_neg (show ¬ (false = true) by decide)] at H
                  obtain rfl := Option.some.inj H
                  go_wp2
                  go_ret
                  exact ⟨by first | rfl | (simp [errW_none, errW_some] <;> rfl) | (simp [*, errW_none, errW_some] <;> rfl), by repeat (first | (with_reducible first | exact HB.out | apply below_alloc | apply pw_below_drewN | apply below_drew1 | refine below_set ?_ GE404.out | refine below_set ?_ GE405.out) | exact HB.out)⟩

/-- THE ONE PURE STATEMENT of laws_FnRunnersMeet: yours. -/
def laws_FnRunnersMeet.Pure : Prop := ∀ (l0 : List Int) (l1 : List Int), l0.length ≤ maxLen → l0.length * 1 ≤ 140737488351232 → (∀ x ∈ l0, (Lit.int .u8 x).wf = true) → l1.length ≤ maxLen → l1.length * 1 ≤ 140737488351232 → (∀ x ∈ l1, (Lit.int .u8 x).wf = true) → ∃ k, laws_FnRunnersMeet.f k l0 l1 = some true
theorem laws_FnRunnersMeet.walk (P : laws_FnRunnersMeet.Pure) (a0 : Option Addr) (len0 cap0 : Nat) (z0 : List Int) (a1 : Option Addr) (len1 cap1 : Nat) (z1 : List Int) (w : World) (w0 : (a0 = none ∧ len0 = 0 ∧ cap0 = 0 ∧ z0 = []) ∨ ∃ x, a0 = some x ∧ len0 ≤ cap0 ∧ cap0 ≤ maxLen ∧ z0.length = cap0 ∧ (∀ i, i < z0.length → w.cell? (x.add i) = some (.int .u8 (z0.getD i 0))) ∧ ∀ n ∈ z0, (Lit.int .u8 n).wf = true) (y0 : len0 * 1 ≤ 140737488351232) (w1 : (a1 = none ∧ len1 = 0 ∧ cap1 = 0 ∧ z1 = []) ∨ ∃ x, a1 = some x ∧ len1 ≤ cap1 ∧ cap1 ≤ maxLen ∧ z1.length = cap1 ∧ (∀ i, i < z1.length → w.cell? (x.add i) = some (.int .u8 (z1.getD i 0))) ∧ ∀ n ∈ z1, (Lit.int .u8 n).wf = true) (y1 : len1 * 1 ≤ 140737488351232) :
  Calls Try.prog 6 #[.slice a0 len0 cap0, .slice a1 len1 cap1] w fun e w' => e = .returned (.bool true) ∧ Below w.heap.size w w' := by
 obtain ⟨l0, rfl, hr0, hm0, hw0, hc0⟩ := ReadsInt.ofRowC w0
 obtain ⟨l1, rfl, hr1, hm1, hw1, hc1⟩ := ReadsInt.ofRowC w1
 obtain ⟨k, h⟩ := P l0 l1 hm0 y0 hw0 hm1 y1 hw1
 refine (laws_FnRunnersMeet.calls k _ _ l0 _ _ l1 true w (Kd.C_of_reads (d := (0 : Int)) (h1 := fun _ => rfl) hr0) hc0 (Kd.C_of_reads (d := (0 : Int)) (h1 := fun _ => rfl) hr1) hc1 h rfl).mono ?_
 rintro e w' ⟨rfl, hd⟩
 exact ⟨rfl, hd⟩

end Go.Proofs.Ytgobnhoblofglaa.PFnRunnersMeet
