-- Laid by a program of this session's (wip/gen/printp.sh): the functions that the law reaches, each with its walk.
import Derived.Test.YtajlcomankjcjaaDoorPFnDogsTurnOfAllx0
import Derived.Test.YtajlcomankjcjaaDoorPFnDogsTurnOfAllx1
import Derived.Test.YtajlcomankjcjaaDoorPFnDogsTurnOfAllx2
import Derived.Test.YtajlcomankjcjaaDoorPFnDogsTurnOfAllx5
import Derived.Test.YtajlcomankjcjaaDoorPFnDogsTurnOfAllx6
import Derived.Test.YtajlcomankjcjaaDoorPFnDogsTurnOfAllx7
import Derived.Test.YtajlcomankjcjaaDoorPFnDogsTurnOfAllx8
import Derived.Test.YtajlcomankjcjaaDoorPFnDogsTurnOfAllx9
import Derived.Test.YtajlcomankjcjaaDoorPFnDogsTurnOfAllx10
import Derived.Test.YtajlcomankjcjaaDoorPFnDogsTurnOfAllx11
namespace Go.Proofs.YtajlcomankjcjaaDoor.PFnDogsTurnOfAll
open Go.RowKit Go.Proofs.YtajlcomankjcjaaDoorW.PrintWords Go.Proofs.YtajlcomankjcjaaDoorW.PrintLast Go.Proofs.YtajlcomankjcjaaDoorW.PrintMore
attribute [local go_sem] max2_int min2_int max_two min_two max_three min_three max_four min_four   -- for this text's walks alone
set_option linter.unusedVariables false
set_option linter.unusedSimpArgs false

attribute [local go_sem high] eqA23
structure Held1 (P : Prop) : Prop where
  out : P
set_option maxHeartbeats 80000000 in
set_option maxRecDepth 100000 in
def laws_FnDogsTurnOfAll.part (k : Nat) (a0_0 : Int) (a0_1 : Int) (a0_2 : Int) (a0_3 : Int) (a1 : Int) (a2_0 : Int) (a2_1 : Int) (a2_2 : Int) (a2_3 : Int) (r : Bool) (w : World) : PSigma fun P1 : Prop => PSigma fun P2 : Prop => PSigma fun P3 : Prop => PSigma fun P4 : Prop => PSigma fun P5 : Prop => PSigma fun P6 : Prop => PSigma fun P7 : Prop => (Held1 P1 → Held1 P2 → Held1 P3 → Held1 P4 → Held1 P5 → Held1 P6 → Held1 P7 → (h : laws_FnDogsTurnOfAll.f k a0_0 a0_1 a0_2 a0_3 a1 a2_0 a2_1 a2_2 a2_3 = some r) → (hrt : r = true) → (hL0 : LaidA w) → Calls Tryd.prog 3 #[.agg #[.int .i64 a0_0, .int .i64 a0_1, .int .i64 a0_2, .int .i64 a0_3], .int .i64 a1, .agg #[.int .i64 a2_0, .int .i64 a2_1, .int .i64 a2_2, .int .i64 a2_3]] w fun e w' => e = .returned (.bool r) ∧ Below w.heap.size w w') := by
 apply PSigma.mk
 apply PSigma.mk
 apply PSigma.mk
 apply PSigma.mk
 apply PSigma.mk
 apply PSigma.mk
 apply PSigma.mk
 focus as_aux_lemma =>
  intro hP1 hP2 hP3 hP4 hP5 hP6 hP7 h hrt hL0
  have HRT := Aside0.mk hrt
  clear hrt
  have hu23 := Tryd.underlying23
  have HB := Aside0.mk (Below.refl w.heap.size w)
  have H : ((impl_DogTurns.f k a0_0 a0_1 a0_2 a0_3 a1).bind fun bt307 => ((spec_DogTurns.f k a0_0 a0_1 a0_2 a0_3 a1).bind fun bt311 => ((impl_ApartAfterTurn.f k a0_0 a0_1 a0_2 a0_3 a1).bind fun bt315 => ((spec_ApartAfterTurn.f k a0_0 a0_1 a0_2 a0_3 a1).bind fun bt318 => ((impl_RunToRight.f k a0_0 a0_1 a0_2 a0_3 a1).bind fun bt321 => ((spec_RunToRight.f k a0_0 a0_1 a0_2 a0_3 a1).bind fun bt324 => (if (bt307.2 != bt311.2) = true then (laws_FnDogsTurnOfAll.j0 k a1 bt307.1 bt307.2 bt315.1 bt315.2.1 bt321.1 bt321.2.1 true a0_0 a0_1 a0_2 a0_3 a2_0 a2_1 a2_2 a2_3) else ((laws_yRows.f k bt307.1 bt311.1).bind fun t327 => (if t327 = true then (if (bt315.2.2 != bt318.2.2) = true then (laws_FnDogsTurnOfAll.j0 k a1 bt307.1 bt307.2 bt315.1 bt315.2.1 bt321.1 bt321.2.1 true a0_0 a0_1 a0_2 a0_3 a2_0 a2_1 a2_2 a2_3) else (if bt315.1 = bt318.1 then (if bt315.2.1 = bt318.2.1 then (if (bt321.2.2 != bt324.2.2) = true then (laws_FnDogsTurnOfAll.j0 k a1 bt307.1 bt307.2 bt315.1 bt315.2.1 bt321.1 bt321.2.1 true a0_0 a0_1 a0_2 a0_3 a2_0 a2_1 a2_2 a2_3) else (if bt321.1 = bt324.1 then (if bt321.2.1 = bt324.2.1 then (if (bt315.2.2 != bt307.2) = true then (laws_FnDogsTurnOfAll.j0 k a1 bt307.1 bt307.2 bt315.1 bt315.2.1 bt321.1 bt321.2.1 true a0_0 a0_1 a0_2 a0_3 a2_0 a2_1 a2_2 a2_3) else (if (bt321.2.2 != bt307.2) = true then (laws_FnDogsTurnOfAll.j0 k a1 bt307.1 bt307.2 bt315.1 bt315.2.1 bt321.1 bt321.2.1 true a0_0 a0_1 a0_2 a0_3 a2_0 a2_1 a2_2 a2_3) else ((impl_IsChase.f a0_0 a0_1 a0_2 a0_3).bind fun t328 => ((spec_IsChase.f a0_0 a0_1 a0_2 a0_3).bind fun t329 => (if (t328 != t329) = true then (laws_FnDogsTurnOfAll.j0 k a1 bt307.1 bt307.2 bt315.1 bt315.2.1 bt321.1 bt321.2.1 true a0_0 a0_1 a0_2 a0_3 a2_0 a2_1 a2_2 a2_3) else (if bt307.2 = true then ((impl_IsChase.f a0_0 a0_1 a0_2 a0_3).bind fun t330 => (laws_FnDogsTurnOfAll.j0 k a1 bt307.1 bt307.2 bt315.1 bt315.2.1 bt321.1 bt321.2.1 (!t330) a0_0 a0_1 a0_2 a0_3 a2_0 a2_1 a2_2 a2_3)) else (laws_FnDogsTurnOfAll.j0 k a1 bt307.1 bt307.2 bt315.1 bt315.2.1 bt321.1 bt321.2.1 false a0_0 a0_1 a0_2 a0_3 a2_0 a2_1 a2_2 a2_3))))))) else (laws_FnDogsTurnOfAll.j0 k a1 bt307.1 bt307.2 bt315.1 bt315.2.1 bt321.1 bt321.2.1 true a0_0 a0_1 a0_2 a0_3 a2_0 a2_1 a2_2 a2_3)) else (laws_FnDogsTurnOfAll.j0 k a1 bt307.1 bt307.2 bt315.1 bt315.2.1 bt321.1 bt321.2.1 true a0_0 a0_1 a0_2 a0_3 a2_0 a2_1 a2_2 a2_3))) else (laws_FnDogsTurnOfAll.j0 k a1 bt307.1 bt307.2 bt315.1 bt315.2.1 bt321.1 bt321.2.1 true a0_0 a0_1 a0_2 a0_3 a2_0 a2_1 a2_2 a2_3)) else (laws_FnDogsTurnOfAll.j0 k a1 bt307.1 bt307.2 bt315.1 bt315.2.1 bt321.1 bt321.2.1 true a0_0 a0_1 a0_2 a0_3 a2_0 a2_1 a2_2 a2_3))) else (laws_FnDogsTurnOfAll.j0 k a1 bt307.1 bt307.2 bt315.1 bt315.2.1 bt321.1 bt321.2.1 true a0_0 a0_1 a0_2 a0_3 a2_0 a2_1 a2_2 a2_3)))))))))) = some r := h
  clear h
  replace H := Option.bind_eq_some_iff.mp H
  obtain ⟨⟨t307, t310⟩, A40, H⟩ := H
  (try dsimp only at H)
  have A4 := Aside0.mk A40
  clear A40
  replace H := Option.bind_eq_some_iff.mp H
  obtain ⟨⟨t311, t314⟩, A50, H⟩ := H
  (try dsimp only at H)
  have A5 := Aside0.mk A50
  clear A50
  replace H := Option.bind_eq_some_iff.mp H
  obtain ⟨⟨t315, t316, t317⟩, A60, H⟩ := H
  (try dsimp only at H)
  have A6 := Aside0.mk A60
  clear A60
  replace H := Option.bind_eq_some_iff.mp H
  obtain ⟨⟨t318, t319, t320⟩, A70, H⟩ := H
  (try dsimp only at H)
  have A7 := Aside0.mk A70
  clear A70
  replace H := Option.bind_eq_some_iff.mp H
  obtain ⟨⟨t321, t322, t323⟩, A80, H⟩ := H
  (try dsimp only at H)
  have A8 := Aside0.mk A80
  clear A80
  replace H := Option.bind_eq_some_iff.mp H
  obtain ⟨⟨t324, t325, t326⟩, A90, H⟩ := H
  (try dsimp only at H)
  have A9 := Aside0.mk A90
  clear A90
  have HC10 := Aside0.mk H
  clear H
  go_enter Tryd.func3, Tryd.ntmps3
  go_upto_region 7 with (first | ((with_reducible refine gate_dst (N := 3) rfl ?_); refine box_event ?hg (N := 3) ?hd (cs := #[.int .i64 a0_0, .int .i64 a0_1, .int .i64 a0_2, .int .i64 a0_3]) (t := 23) ?hr ?_; (case hd => rfl); (case hg => rfl); (case hr => first | (go_simp; done) | (go_simp; rfl)); intro gb305 hg w11 hbox hb; have n0_ := Aside0.mk (below_step bw_ hb); have n1_ := Aside0.mk (hbox); have n2_ := Aside0.mk ((by rw [hg]; exact (below_size bw_) : w.heap.size ≤ gb305)); have n3_ := Aside0.mk ((by rw [hg]; exact (below_size bw_) : w.heap.size ≤ gb305)); clear HB; have HB := n0_; have BK305 := n1_; have GW305 := n2_; have GE305 := n3_; clear n0_ n1_ n2_ n3_; clear hb hbox hg) | ((with_reducible refine gate_dst (N := 5) rfl ?_); refine box_event ?hg (N := 5) ?hd (cs := #[.int .i64 a2_0, .int .i64 a2_1, .int .i64 a2_2, .int .i64 a2_3]) (t := 23) ?hr ?_; (case hd => rfl); (case hg => rfl); (case hr => first | (go_simp; done) | (go_simp; rfl)); intro gb306 hg w12 hbox hb; have n0_ := Aside0.mk (blk_below (g := gb305) (o := .cells #[.int .i64 a0_0, .int .i64 a0_1, .int .i64 a0_2, .int .i64 a0_3] 23 (0, 0)) bk_ hb); have n1_ := Aside0.mk (below_step bw_ hb); have n2_ := Aside0.mk (hbox); have n3_ := Aside0.mk ((by rw [hg]; exact (below_size bw_) : w.heap.size ≤ gb306)); have n4_ := Aside0.mk ((by rw [hg]; exact (below_size bw_) : w.heap.size ≤ gb306)); have n5_ := Aside0.mk ((by rw [hg]; exact Nat.ne_of_lt (blk_lt (g := gb305) (o := .cells #[.int .i64 a0_0, .int .i64 a0_1, .int .i64 a0_2, .int .i64 a0_3] 23 (0, 0)) bk_) : gb305 ≠ gb306)); have n6_ := Aside0.mk ((by rw [hg]; exact Nat.ne_of_gt (blk_lt (g := gb305) (o := .cells #[.int .i64 a0_0, .int .i64 a0_1, .int .i64 a0_2, .int .i64 a0_3] 23 (0, 0)) bk_) : gb306 ≠ gb305)); clear BK305; clear HB; have BK305 := n0_; have HB := n1_; have BK306 := n2_; have GW306 := n3_; have GE306 := n4_; have NB305_306 := n5_; have NB306_305 := n6_; clear n0_ n1_ n2_ n3_ n4_ n5_ n6_; clear hb hbox hg; have hnb13 := NB305_306.out; have hnc13 := NB306_305.out; have hcz14_0 : w12.cell? ⟨gb305, 0, none⟩ = some (.int .i64 a0_0) := (blk_cell BK305.out 0).trans rfl; have hcz14_1 : w12.cell? ⟨gb305, 1, none⟩ = some (.int .i64 a0_1) := (blk_cell BK305.out 1).trans rfl; have hcz14_2 : w12.cell? ⟨gb305, 2, none⟩ = some (.int .i64 a0_2) := (blk_cell BK305.out 2).trans rfl; have hcz14_3 : w12.cell? ⟨gb305, 3, none⟩ = some (.int .i64 a0_3) := (blk_cell BK305.out 3).trans rfl; have hfz14_0 := blk_frozen BK305.out 0; have hfz14_1 := blk_frozen BK305.out 1; have hfz14_2 := blk_frozen BK305.out 2; have hfz14_3 := blk_frozen BK305.out 3) | ((with_reducible refine gate_callee (f := 4) rfl ?_); refine goesL_ (some 83) rfl rfl Tryd.func4 (by kernel_rfl) rfl #[.agg #[.int .i64 a0_0, .int .i64 a0_1, .int .i64 a0_2, .int .i64 a0_3], .int .i64 a1] rfl (by (try simp only [List.map_toArray, List.map_cons, List.map_nil]); first | done | rfl | (simp only [List.length_drop, List.length_take]; rfl)) ?_; (with_reducible refine (impl_DogTurns.calls k a0_0 a0_1 a0_2 a0_3 a1 t307 t310 _ A4.out).mono ?_); rintro e w15 ⟨v308, rfl, ho0, hb⟩; refine ⟨_, rfl, ?_⟩; have n0_ := Aside0.mk (Kd.S_lower ho0 (below_size bw_)); have n1_ := Aside0.mk (blk_below (g := gb305) (o := .cells #[.int .i64 a0_0, .int .i64 a0_1, .int .i64 a0_2, .int .i64 a0_3] 23 (0, 0)) bk_ hb); have n2_ := Aside0.mk (blk_below (g := gb306) (o := .cells #[.int .i64 a2_0, .int .i64 a2_1, .int .i64 a2_2, .int .i64 a2_3] 23 (0, 0)) bk_ hb); have n3_ := Aside0.mk (below_step bw_ hb); clear BK305; clear BK306; clear HB; have HO309 := n0_; have BK305 := n1_; have BK306 := n2_; have HB := n3_; clear n0_ n1_ n2_ n3_; (try clear hb); (try clear hb2); (try clear hk); (try clear hi); (try clear ho0); have hcz16_0 : w15.cell? ⟨gb305, 0, none⟩ = some (.int .i64 a0_0) := (blk_cell BK305.out 0).trans rfl; have hcz16_1 : w15.cell? ⟨gb305, 1, none⟩ = some (.int .i64 a0_1) := (blk_cell BK305.out 1).trans rfl; have hcz16_2 : w15.cell? ⟨gb305, 2, none⟩ = some (.int .i64 a0_2) := (blk_cell BK305.out 2).trans rfl; have hcz16_3 : w15.cell? ⟨gb305, 3, none⟩ = some (.int .i64 a0_3) := (blk_cell BK305.out 3).trans rfl; have hfz16_0 := blk_frozen BK305.out 0; have hfz16_1 := blk_frozen BK305.out 1; have hfz16_2 := blk_frozen BK305.out 2; have hfz16_3 := blk_frozen BK305.out 3) | ((with_reducible refine gate_callee (f := 5) rfl ?_); refine goesL_ (some 89) rfl rfl Tryd.func5 (by kernel_rfl) rfl #[.agg #[.int .i64 a0_0, .int .i64 a0_1, .int .i64 a0_2, .int .i64 a0_3], .int .i64 a1] rfl (by (try simp only [List.map_toArray, List.map_cons, List.map_nil]); first | done | rfl | (simp only [List.length_drop, List.length_take]; rfl)) ?_; (with_reducible refine (spec_DogTurns.calls k a0_0 a0_1 a0_2 a0_3 a1 t311 t314 _ A5.out).mono ?_); rintro e w17 ⟨v312, rfl, ho0, hb⟩; refine ⟨_, rfl, ?_⟩; have n0_ := Aside0.mk (Kd.S_elder' (by (with_reducible repeat (first | apply Kd.S_alloc | apply Kd.S_drewN | apply Kd.S_drew)); exact HO309.out) (Kd.S_base ho0) hb); have n1_ := Aside0.mk (Kd.S_lower (Kd.S_new' ho0 (Kd.S_lt (by (with_reducible repeat (first | apply Kd.S_alloc | apply Kd.S_drewN | apply Kd.S_drew)); exact HO309.out))) (below_size bw_)); have n2_ := Aside0.mk (blk_below (g := gb305) (o := .cells #[.int .i64 a0_0, .int .i64 a0_1, .int .i64 a0_2, .int .i64 a0_3] 23 (0, 0)) bk_ hb); have n3_ := Aside0.mk (blk_below (g := gb306) (o := .cells #[.int .i64 a2_0, .int .i64 a2_1, .int .i64 a2_2, .int .i64 a2_3] 23 (0, 0)) bk_ hb); have n4_ := Aside0.mk (below_step bw_ hb); clear HO309; clear BK305; clear BK306; clear HB; have HO309 := n0_; have HO313 := n1_; have BK305 := n2_; have BK306 := n3_; have HB := n4_; clear n0_ n1_ n2_ n3_ n4_; (try clear hb); (try clear hb2); (try clear hk); (try clear hi); (try clear ho0); have hcz18_0 : w17.cell? ⟨gb305, 0, none⟩ = some (.int .i64 a0_0) := (blk_cell BK305.out 0).trans rfl; have hcz18_1 : w17.cell? ⟨gb305, 1, none⟩ = some (.int .i64 a0_1) := (blk_cell BK305.out 1).trans rfl; have hcz18_2 : w17.cell? ⟨gb305, 2, none⟩ = some (.int .i64 a0_2) := (blk_cell BK305.out 2).trans rfl; have hcz18_3 : w17.cell? ⟨gb305, 3, none⟩ = some (.int .i64 a0_3) := (blk_cell BK305.out 3).trans rfl; have hfz18_0 := blk_frozen BK305.out 0; have hfz18_1 := blk_frozen BK305.out 1; have hfz18_2 := blk_frozen BK305.out 2; have hfz18_3 := blk_frozen BK305.out 3) | ((with_reducible refine gate_callee (f := 6) rfl ?_); refine goesL_ (some 95) rfl rfl Tryd.func6 (by kernel_rfl) rfl #[.agg #[.int .i64 a0_0, .int .i64 a0_1, .int .i64 a0_2, .int .i64 a0_3], .int .i64 a1] rfl (by (try simp only [List.map_toArray, List.map_cons, List.map_nil]); first | done | rfl | (simp only [List.length_drop, List.length_take]; rfl)) ?_; (with_reducible refine (impl_ApartAfterTurn.calls k a0_0 a0_1 a0_2 a0_3 a1 t315 t316 t317 _ A6.out).mono ?_); rintro e w19 ⟨rfl, hb⟩; refine ⟨_, rfl, ?_⟩; have n0_ := Aside0.mk (Kd.S_below (by (with_reducible repeat (first | apply Kd.S_alloc | apply Kd.S_drewN | apply Kd.S_drew)); exact HO309.out) hb); have n1_ := Aside0.mk (Kd.S_below (by (with_reducible repeat (first | apply Kd.S_alloc | apply Kd.S_drewN | apply Kd.S_drew)); exact HO313.out) hb); have n2_ := Aside0.mk (blk_below (g := gb305) (o := .cells #[.int .i64 a0_0, .int .i64 a0_1, .int .i64 a0_2, .int .i64 a0_3] 23 (0, 0)) bk_ hb); have n3_ := Aside0.mk (blk_below (g := gb306) (o := .cells #[.int .i64 a2_0, .int .i64 a2_1, .int .i64 a2_2, .int .i64 a2_3] 23 (0, 0)) bk_ hb); have n4_ := Aside0.mk (below_step bw_ hb); clear HO309; clear HO313; clear BK305; clear BK306; clear HB; have HO309 := n0_; have HO313 := n1_; have BK305 := n2_; have BK306 := n3_; have HB := n4_; clear n0_ n1_ n2_ n3_ n4_; (try clear hb); (try clear hb2); (try clear hk); (try clear hi); have hcz20_0 : w19.cell? ⟨gb305, 0, none⟩ = some (.int .i64 a0_0) := (blk_cell BK305.out 0).trans rfl; have hcz20_1 : w19.cell? ⟨gb305, 1, none⟩ = some (.int .i64 a0_1) := (blk_cell BK305.out 1).trans rfl; have hcz20_2 : w19.cell? ⟨gb305, 2, none⟩ = some (.int .i64 a0_2) := (blk_cell BK305.out 2).trans rfl; have hcz20_3 : w19.cell? ⟨gb305, 3, none⟩ = some (.int .i64 a0_3) := (blk_cell BK305.out 3).trans rfl; have hfz20_0 := blk_frozen BK305.out 0; have hfz20_1 := blk_frozen BK305.out 1; have hfz20_2 := blk_frozen BK305.out 2; have hfz20_3 := blk_frozen BK305.out 3) | ((with_reducible refine gate_callee (f := 7) rfl ?_); refine goesL_ (some 102) rfl rfl Tryd.func7 (by kernel_rfl) rfl #[.agg #[.int .i64 a0_0, .int .i64 a0_1, .int .i64 a0_2, .int .i64 a0_3], .int .i64 a1] rfl (by (try simp only [List.map_toArray, List.map_cons, List.map_nil]); first | done | rfl | (simp only [List.length_drop, List.length_take]; rfl)) ?_; (with_reducible refine (spec_ApartAfterTurn.calls k a0_0 a0_1 a0_2 a0_3 a1 t318 t319 t320 _ A7.out).mono ?_); rintro e w21 ⟨rfl, hb⟩; refine ⟨_, rfl, ?_⟩; have n0_ := Aside0.mk (Kd.S_below (by (with_reducible repeat (first | apply Kd.S_alloc | apply Kd.S_drewN | apply Kd.S_drew)); exact HO309.out) hb); have n1_ := Aside0.mk (Kd.S_below (by (with_reducible repeat (first | apply Kd.S_alloc | apply Kd.S_drewN | apply Kd.S_drew)); exact HO313.out) hb); have n2_ := Aside0.mk (blk_below (g := gb305) (o := .cells #[.int .i64 a0_0, .int .i64 a0_1, .int .i64 a0_2, .int .i64 a0_3] 23 (0, 0)) bk_ hb); have n3_ := Aside0.mk (blk_below (g := gb306) (o := .cells #[.int .i64 a2_0, .int .i64 a2_1, .int .i64 a2_2, .int .i64 a2_3] 23 (0, 0)) bk_ hb); have n4_ := Aside0.mk (below_step bw_ hb); clear HO309; clear HO313; clear BK305; clear BK306; clear HB; have HO309 := n0_; have HO313 := n1_; have BK305 := n2_; have BK306 := n3_; have HB := n4_; clear n0_ n1_ n2_ n3_ n4_; (try clear hb); (try clear hb2); (try clear hk); (try clear hi); have hcz22_0 : w21.cell? ⟨gb305, 0, none⟩ = some (.int .i64 a0_0) := (blk_cell BK305.out 0).trans rfl; have hcz22_1 : w21.cell? ⟨gb305, 1, none⟩ = some (.int .i64 a0_1) := (blk_cell BK305.out 1).trans rfl; have hcz22_2 : w21.cell? ⟨gb305, 2, none⟩ = some (.int .i64 a0_2) := (blk_cell BK305.out 2).trans rfl; have hcz22_3 : w21.cell? ⟨gb305, 3, none⟩ = some (.int .i64 a0_3) := (blk_cell BK305.out 3).trans rfl; have hfz22_0 := blk_frozen BK305.out 0; have hfz22_1 := blk_frozen BK305.out 1; have hfz22_2 := blk_frozen BK305.out 2; have hfz22_3 := blk_frozen BK305.out 3) | ((with_reducible refine gate_callee (f := 8) rfl ?_); refine goesL_ (some 109) rfl rfl Tryd.func8 (by kernel_rfl) rfl #[.agg #[.int .i64 a0_0, .int .i64 a0_1, .int .i64 a0_2, .int .i64 a0_3], .int .i64 a1] rfl (by (try simp only [List.map_toArray, List.map_cons, List.map_nil]); first | done | rfl | (simp only [List.length_drop, List.length_take]; rfl)) ?_; (with_reducible refine (impl_RunToRight.calls k a0_0 a0_1 a0_2 a0_3 a1 t321 t322 t323 _ A8.out).mono ?_); rintro e w23 ⟨rfl, hb⟩; refine ⟨_, rfl, ?_⟩; have n0_ := Aside0.mk (Kd.S_below (by (with_reducible repeat (first | apply Kd.S_alloc | apply Kd.S_drewN | apply Kd.S_drew)); exact HO309.out) hb); have n1_ := Aside0.mk (Kd.S_below (by (with_reducible repeat (first | apply Kd.S_alloc | apply Kd.S_drewN | apply Kd.S_drew)); exact HO313.out) hb); have n2_ := Aside0.mk (blk_below (g := gb305) (o := .cells #[.int .i64 a0_0, .int .i64 a0_1, .int .i64 a0_2, .int .i64 a0_3] 23 (0, 0)) bk_ hb); have n3_ := Aside0.mk (blk_below (g := gb306) (o := .cells #[.int .i64 a2_0, .int .i64 a2_1, .int .i64 a2_2, .int .i64 a2_3] 23 (0, 0)) bk_ hb); have n4_ := Aside0.mk (below_step bw_ hb); clear HO309; clear HO313; clear BK305; clear BK306; clear HB; have HO309 := n0_; have HO313 := n1_; have BK305 := n2_; have BK306 := n3_; have HB := n4_; clear n0_ n1_ n2_ n3_ n4_; (try clear hb); (try clear hb2); (try clear hk); (try clear hi); have hcz24_0 : w23.cell? ⟨gb305, 0, none⟩ = some (.int .i64 a0_0) := (blk_cell BK305.out 0).trans rfl; have hcz24_1 : w23.cell? ⟨gb305, 1, none⟩ = some (.int .i64 a0_1) := (blk_cell BK305.out 1).trans rfl; have hcz24_2 : w23.cell? ⟨gb305, 2, none⟩ = some (.int .i64 a0_2) := (blk_cell BK305.out 2).trans rfl; have hcz24_3 : w23.cell? ⟨gb305, 3, none⟩ = some (.int .i64 a0_3) := (blk_cell BK305.out 3).trans rfl; have hfz24_0 := blk_frozen BK305.out 0; have hfz24_1 := blk_frozen BK305.out 1; have hfz24_2 := blk_frozen BK305.out 2; have hfz24_3 := blk_frozen BK305.out 3) | ((with_reducible refine gate_callee (f := 9) rfl ?_); refine goesL_ (some 116) rfl rfl Tryd.func9 (by kernel_rfl) rfl #[.agg #[.int .i64 a0_0, .int .i64 a0_1, .int .i64 a0_2, .int .i64 a0_3], .int .i64 a1] rfl (by (try simp only [List.map_toArray, List.map_cons, List.map_nil]); first | done | rfl | (simp only [List.length_drop, List.length_take]; rfl)) ?_; (with_reducible refine (spec_RunToRight.calls k a0_0 a0_1 a0_2 a0_3 a1 t324 t325 t326 _ A9.out).mono ?_); rintro e w25 ⟨rfl, hb⟩; refine ⟨_, rfl, ?_⟩; have n0_ := Aside0.mk (Kd.S_below (by (with_reducible repeat (first | apply Kd.S_alloc | apply Kd.S_drewN | apply Kd.S_drew)); exact HO309.out) hb); have n1_ := Aside0.mk (Kd.S_below (by (with_reducible repeat (first | apply Kd.S_alloc | apply Kd.S_drewN | apply Kd.S_drew)); exact HO313.out) hb); have n2_ := Aside0.mk (blk_below (g := gb305) (o := .cells #[.int .i64 a0_0, .int .i64 a0_1, .int .i64 a0_2, .int .i64 a0_3] 23 (0, 0)) bk_ hb); have n3_ := Aside0.mk (blk_below (g := gb306) (o := .cells #[.int .i64 a2_0, .int .i64 a2_1, .int .i64 a2_2, .int .i64 a2_3] 23 (0, 0)) bk_ hb); have n4_ := Aside0.mk (below_step bw_ hb); clear HO309; clear HO313; clear BK305; clear BK306; clear HB; have HO309 := n0_; have HO313 := n1_; have BK305 := n2_; have BK306 := n3_; have HB := n4_; clear n0_ n1_ n2_ n3_ n4_; (try clear hb); (try clear hb2); (try clear hk); (try clear hi)))
  (try simp only [Act.put, List.setIfInBounds_toArray, List.set_cons_zero, List.set_cons_succ])
  go_cut [183] from 120 to 183 (fun v183 wc => ∃ (kq : Nat) (x183_9 : Bool), v183 = .bool x183_9 ∧ Aside0 (laws_FnDogsTurnOfAll.j0 kq a1 t307 t310 t315 t316 t321 t322 x183_9 a0_0 a0_1 a0_2 a0_3 a2_0 a2_1 a2_2 a2_3 = some r) ∧ Aside0 (kq ≤ k) ∧ Aside0 (Kd.S (Kd.slice 3 (Kd.int .i64)) 32 wc w.heap.size (fun _ => True) v308 t307) ∧ Aside0 (wc.heap[gb305]? = some (.cells #[.int .i64 a0_0, .int .i64 a0_1, .int .i64 a0_2, .int .i64 a0_3] 23 (0, 0))) ∧ Aside0 (wc.heap[gb306]? = some (.cells #[.int .i64 a2_0, .int .i64 a2_1, .int .i64 a2_2, .int .i64 a2_3] 23 (0, 0))) ∧ Aside0 (Below w.heap.size w wc))
  case first =>
   rename_i z1_ z2_ z3_ z4_ z5_ z6_ z7_ z8_ z9_
   revert hL0 HRT hu23 t307 t310 A4 t311 t314 A5 t315 t316 t317 A6 t318 t319 t320 A7 t321 t322 t323 A8 t324 t325 t326 A9 HC10 z1_ gb305 w11 GW305 GE305 gb306 w12 GW306 GE306 NB305_306 NB306_305 hnb13 hnc13 hcz14_0 hcz14_1 hcz14_2 hcz14_3 hfz14_0 hfz14_1 hfz14_2 hfz14_3 w15 v308 hcz16_0 hcz16_1 hcz16_2 hcz16_3 hfz16_0 hfz16_1 hfz16_2 hfz16_3 w17 v312 hcz18_0 hcz18_1 hcz18_2 hcz18_3 hfz18_0 hfz18_1 hfz18_2 hfz18_3 w19 hcz20_0 hcz20_1 hcz20_2 hcz20_3 hfz20_0 hfz20_1 hfz20_2 hfz20_3 w21 hcz22_0 hcz22_1 hcz22_2 hcz22_3 hfz22_0 hfz22_1 hfz22_2 hfz22_3 w23 hcz24_0 hcz24_1 hcz24_2 hcz24_3 hfz24_0 hfz24_1 hfz24_2 hfz24_3 w25 HO309 HO313 BK305 BK306 HB z2_ z3_ z4_ z5_ z6_ z7_ z8_ z9_
   exact hP1.out
  case rest => as_aux_lemma =>
   clear HC10
   obtain ⟨kq, x183_9, rfl, HA, HJ9, HO_7, BK305, BK306, HB⟩ := hcut
   cases kq with
   | zero => exact absurd HA.out (by simp [laws_FnDogsTurnOfAll.j0])
   | succ kj9 =>
    have H := HA.out
    clear HA
    simp only [laws_FnDogsTurnOfAll.j0] at H
    by_cases c53 : x183_9 = true
    ·
     subst c53
     rw [if_pos rfl] at H
     exact absurd ((Option.some.inj H).trans HRT.out) (by decide)
    ·
     replace c53 := Bool.eq_false_iff.mpr c53
     subst c53
     rw [if_neg (show ¬ (false = true) by decide)] at H
     have HC54 := Aside0.mk H
     clear H
     go_upto_if 184 with (fail)
     go_cut [] from 185 to 365 (fun wc => ∃ (kq : Nat), Aside0 (laws_FnDogsTurnOfAll.j5 kq a2_0 a2_1 a2_2 a2_3 = some r) ∧ Aside0 (kq ≤ kj9) ∧ Aside0 (wc.heap[gb305]? = some (.cells #[.int .i64 a0_0, .int .i64 a0_1, .int .i64 a0_2, .int .i64 a0_3] 23 (0, 0))) ∧ Aside0 (wc.heap[gb306]? = some (.cells #[.int .i64 a2_0, .int .i64 a2_1, .int .i64 a2_2, .int .i64 a2_3] 23 (0, 0))) ∧ Aside0 (Below w.heap.size w wc))
     case first => as_aux_lemma =>
      have H := HC54.out
      clear HC54
      by_cases c55 : t310 = true
      ·
       subst c55
       rw [if_pos rfl] at H
       have HC56 := Aside0.mk H
       clear H
       go_upto_region 10 with (fail)
       go_cut [204] from 185 to 204 (fun v204 wc => ∃ (kq : Nat) (x204_55 : Bool), v204 = .bool x204_55 ∧ Aside0 (laws_FnDogsTurnOfAll.j1 kq a1 t307 x204_55 a0_0 a0_1 a0_2 a0_3 a2_0 a2_1 a2_2 a2_3 = some r) ∧ Aside0 (kq ≤ kj9) ∧ Aside0 (Kd.S (Kd.slice 3 (Kd.int .i64)) 32 wc w.heap.size (fun _ => True) v308 t307) ∧ Aside0 (wc.heap[gb305]? = some (.cells #[.int .i64 a0_0, .int .i64 a0_1, .int .i64 a0_2, .int .i64 a0_3] 23 (0, 0))) ∧ Aside0 (wc.heap[gb306]? = some (.cells #[.int .i64 a2_0, .int .i64 a2_1, .int .i64 a2_2, .int .i64 a2_3] 23 (0, 0))) ∧ Aside0 (Below w.heap.size w wc))
       case first =>
        rename_i z1_ z2_ z3_ z4_ z5_ z6_ z7_ z8_ z9_ z10_ z11_ z12_ z13_ z14_ z15_ z16_ z17_ z18_
        revert hL0 HRT hu23 t307 t311 t314 A5 t315 t316 t317 A6 t318 t319 t320 A7 t321 t322 t323 A8 t324 t325 t326 A9 z1_ gb305 w11 GW305 GE305 gb306 w12 GW306 GE306 NB305_306 NB306_305 hnb13 hnc13 hcz14_0 hcz14_1 hcz14_2 hcz14_3 hfz14_0 hfz14_1 hfz14_2 hfz14_3 w15 v308 hcz16_0 hcz16_1 hcz16_2 hcz16_3 hfz16_0 hfz16_1 hfz16_2 hfz16_3 w17 v312 hcz18_0 hcz18_1 hcz18_2 hcz18_3 hfz18_0 hfz18_1 hfz18_2 hfz18_3 w19 hcz20_0 hcz20_1 hcz20_2 hcz20_3 hfz20_0 hfz20_1 hfz20_2 hfz20_3 w21 hcz22_0 hcz22_1 hcz22_2 hcz22_3 hfz22_0 hfz22_1 hfz22_2 hfz22_3 w23 hcz24_0 hcz24_1 hcz24_2 hcz24_3 hfz24_0 hfz24_1 hfz24_2 hfz24_3 w25 HO309 HO313 z2_ z3_ z4_ wc u120 u121 u122 u123 u124 u125 u126 u127 u128 u129 u130 u131 u132 u133 u134 u135 u136 u137 u138 u139 u140 u141 u142 u143 u144 u145 u146 u147 u148 u149 u150 u151 u152 u153 u154 u155 u156 u157 u158 u159 u160 u161 u162 u163 u164 u165 u166 u167 u168 u169 u170 u171 u172 u173 u174 u175 u176 u177 u178 u179 u180 u181 u182 HO_7 BK305 BK306 HB kj9 HJ9 z5_ z6_ z7_ z8_ z9_ A4 z10_ HC56 z11_ z12_ z13_ z14_ z15_ z16_ z17_ z18_
        exact hP2.out
       case rest => as_aux_lemma =>
        clear HC56
        (try clear c53); (try clear c55)
        obtain ⟨kq, x204_55, rfl, HA, HJ55, HO_7, BK305, BK306, HB⟩ := hcut
        cases kq with
        | zero => exact absurd HA.out (by simp [laws_FnDogsTurnOfAll.j1])
        | succ kj55 =>
         have H := HA.out
         clear HA
         simp only [laws_FnDogsTurnOfAll.j1] at H
         by_cases c63 : x204_55 = true
         ·
          subst c63
          rw [if_pos rfl] at H
          exact absurd ((Option.some.inj H).trans HRT.out) (by decide)
         ·
          replace c63 := Bool.eq_false_iff.mpr c63
          subst c63
          rw [if_neg (show ¬ (false = true) by decide)] at H
          have H' := Aside0.mk H
          clear H
          obtain ⟨Ao64, co64, eo64⟩ := Kd.S_slice HO_7.out
          subst eo64
          go_wp2
          go_loopg [207] kj55 (fun kq v207 w' => ∃ (x207_3 : Int), v207 = .int .i64 x207_3 ∧ Aside0 (laws_FnDogsTurnOfAll.l0 kq a1 t307 t307 (t307.length : Int) x207_3 a0_0 a0_1 a0_2 a0_3 a2_0 a2_1 a2_2 a2_3 = some r) ∧ Aside0 (kq ≤ kj55) ∧ Aside0 (Kd.S (Kd.slice 3 (Kd.int .i64)) 32 w' w.heap.size (fun _ => True) (.slice Ao64 t307.length co64) t307) ∧ Aside0 (Kd.S (Kd.slice 3 (Kd.int .i64)) 32 w' w.heap.size (fun _ => True) (.slice Ao64 t307.length co64) t307) ∧ Aside0 (w'.heap[gb305]? = some (.cells #[.int .i64 a0_0, .int .i64 a0_1, .int .i64 a0_2, .int .i64 a0_3] 23 (0, 0))) ∧ Aside0 (w'.heap[gb306]? = some (.cells #[.int .i64 a2_0, .int .i64 a2_1, .int .i64 a2_2, .int .i64 a2_3] 23 (0, 0))) ∧ Aside0 (Below w.heap.size w w'))
          case atStart => exact ⟨(0), (by first | rfl | (simp; done) | (simp [*]; done)), H', ⟨Nat.le_refl _⟩, ⟨by (with_reducible repeat (first | apply Kd.S_alloc | apply Kd.S_drewN | apply Kd.S_drew)); exact HO_7.out⟩, ⟨by (with_reducible repeat (first | apply Kd.S_alloc | apply Kd.S_drewN | apply Kd.S_drew)); exact HO_7.out⟩, ⟨bk_⟩, ⟨bk_⟩, ⟨bw_⟩⟩
          case round => as_aux_lemma =>
           clear H'
           (try clear c53); (try clear c55); (try clear c63)
           obtain ⟨x207_3, rfl, HA, HK3, HO_7, HO_205, BK305, BK306, HB⟩ := hrel
           cases gk with
           | zero => exact absurd HA.out (by simp [laws_FnDogsTurnOfAll.l0])
           | succ k3 =>
            have H := HA.out
            clear HA
            simp only [laws_FnDogsTurnOfAll.l0] at H
            by_cases c65 : x207_3 < (t307.length : Int)
            ·
             rw [if_pos c65] at H
             have c65b0 : decide (x207_3 < (t307.length : Int)) = true := decide_eq_true c65
             clear c65
             by_cases c66 : 0 ≤ x207_3
             ·
              rw [if_pos c66] at H
              have c66b0 : decide (0 ≤ x207_3) = true := decide_eq_true c66
              clear c66
              by_cases c67 : x207_3 < (t307.length : Int)
              ·
               rw [if_pos c67] at H
               have c67b0 : decide (x207_3 < (t307.length : Int)) = true := decide_eq_true c67
               clear c67
               have HC68 := Aside0.mk H
               clear H
               have p333 : 0 ≤ (x207_3 : Int) := of_decide_eq_true (by first | (with_reducible assumption) | assumption)
               have q333 : x207_3 < (t307.length : Int) := of_decide_eq_true (by first | (with_reducible assumption) | assumption)
               obtain ⟨ad333, A333_0, c333_0, e333, hx333_0, hl333_0, hi333_0⟩ := at_L1 (Kd.S_reads' HO_205.out).2.2 x207_3 p333 q333
               cases e333
               obtain ⟨ce333, hce333, hMe333, hcc333⟩ := Kd.S_get HO_205.out [] x207_3 p333 (by first | exact q333 | exact of_decide_eq_true (by first | (with_reducible assumption) | assumption) | (have e_ := (Kd.S_reads' HO_205.out).1; omega))
               obtain ⟨ve333_0, rfl, ge333_0⟩ := hMe333
               have hv333_0 := hcc333 0 _ rfl
               rw [Nat.add_zero, show ((Kd.slice 3 (Kd.int .i64))).sz = 1 from rfl, Nat.mul_one] at hv333_0
               replace hv333_0 := Option.some.inj (hv333_0.symm.trans hx333_0)
               rw [hv333_0] at ge333_0
               have HL333_0 := Aside0.mk (show Kd.R (Kd.int .i64) 3 _ _ _ _ (rd_L1 t307 x207_3) from ge333_0)
               clear hv333_0 ge333_0
               clear hcc333 hce333
               have HR333_0 := Aside0.mk hi333_0
               have HC333_0 := Aside0.mk hl333_0
               clear hi333_0 hl333_0
               replace p333 := eq_true p333
               replace q333 := eq_true q333
               go_upto_region 15 with (fail)
               go_cut [267] from 212 to 267 (fun v267 wc => ∃ (kq : Nat) (x267_67 : Bool), v267 = .bool x267_67 ∧ Aside0 (laws_FnDogsTurnOfAll.j3 kq a1 t307 x207_3 t307 (t307.length : Int) x207_3 x267_67 a0_0 a0_1 a0_2 a0_3 a2_0 a2_1 a2_2 a2_3 = some r) ∧ Aside0 (kq ≤ k3) ∧ Aside0 (Kd.S (Kd.slice 3 (Kd.int .i64)) 32 wc w.heap.size (fun _ => True) (.slice (some ad333) t307.length co64) t307) ∧ Aside0 (Kd.S (Kd.slice 3 (Kd.int .i64)) 32 wc w.heap.size (fun _ => True) (.slice (some ad333) t307.length co64) t307) ∧ Aside0 (wc.heap[gb305]? = some (.cells #[.int .i64 a0_0, .int .i64 a0_1, .int .i64 a0_2, .int .i64 a0_3] 23 (0, 0))) ∧ Aside0 (wc.heap[gb306]? = some (.cells #[.int .i64 a2_0, .int .i64 a2_1, .int .i64 a2_2, .int .i64 a2_3] 23 (0, 0))) ∧ Aside0 (Kd.C (Kd.int .i64) wc A333_0 (rd_L1 t307 x207_3).length (rd_L1 t307 x207_3)) ∧ Aside0 (Below w.heap.size w wc))
               case first =>
                rename_i z1_ z2_ z3_ z4_ z5_ z6_ z7_ z8_ z9_ z10_ z11_ z12_ z13_ z14_ z15_ z16_ z17_ z18_ z19_ z20_ z21_ z22_ z23_ z24_ z25_ z26_ z27_ z28_ z29_ z30_ z31_ z32_ z33_
                revert hL0 HRT hu23 t307 t311 t314 A5 t315 t316 t317 A6 t318 t319 t320 A7 t321 t322 t323 A8 t324 t325 t326 A9 z1_ gb305 w11 GW305 GE305 gb306 w12 GW306 GE306 NB305_306 NB306_305 hnb13 hnc13 hcz14_0 hcz14_1 hcz14_2 hcz14_3 hfz14_0 hfz14_1 hfz14_2 hfz14_3 w15 hcz16_0 hcz16_1 hcz16_2 hcz16_3 hfz16_0 hfz16_1 hfz16_2 hfz16_3 w17 v312 hcz18_0 hcz18_1 hcz18_2 hcz18_3 hfz18_0 hfz18_1 hfz18_2 hfz18_3 w19 hcz20_0 hcz20_1 hcz20_2 hcz20_3 hfz20_0 hfz20_1 hfz20_2 hfz20_3 w21 hcz22_0 hcz22_1 hcz22_2 hcz22_3 hfz22_0 hfz22_1 hfz22_2 hfz22_3 w23 hcz24_0 hcz24_1 hcz24_2 hcz24_3 hfz24_0 hfz24_1 hfz24_2 hfz24_3 w25 z2_ z3_ z4_ z5_ u120 u121 u122 u123 u124 u125 u126 u127 u128 u129 u130 u131 u132 u133 u134 u135 u136 u137 u138 u139 u140 u141 u142 u143 u144 u145 u146 u147 u148 u149 u150 u151 u152 u153 u154 u155 u156 u157 u158 u159 u160 u161 u162 u163 u164 u165 u166 u167 u168 u169 u170 u171 u172 u173 u174 u175 u176 u177 u178 u179 u180 u181 u182 z6_ z7_ z8_ kj9 HJ9 z9_ z10_ z11_ z12_ z13_ A4 wc u185 u186 u187 u188 u189 u190 u191 u192 u193 u194 u195 u196 u197 u198 u199 u200 u201 u202 u203 z14_ z15_ z16_ kj55 HJ55 co64 wr u6 u23 u24 u25 u26 u27 u28 u29 u208 u209 u210 u211 u212 u213 u214 u215 u216 u217 u218 u219 u220 u221 u222 u223 u224 u225 u226 u227 u228 u229 u230 u231 u232 u233 u234 u235 u236 u237 u238 u239 u240 u241 u242 u243 u244 u245 u246 u247 u248 u249 u250 u251 u252 u253 u254 u255 u256 u257 u258 u259 u260 u261 u262 u263 u264 u265 u266 u267 u268 u269 u270 u271 u272 u273 u274 u275 u276 u277 u278 u279 u280 u281 u282 u283 u284 u285 u286 u287 u288 u289 u290 u291 u292 u293 u294 u295 u296 u297 u298 u299 u300 u301 u302 u303 u304 u305 u306 u307 u308 u309 u310 u311 u312 u313 u314 u315 u316 u317 u318 u319 u320 u321 u322 u323 u324 u325 u326 u327 u328 u329 u330 u331 u332 u333 u334 u335 u336 u337 u338 u339 u340 u341 u342 u343 u344 u345 u346 u347 u348 u349 u350 u351 u352 u353 u354 u355 u356 u357 u358 u359 u360 u361 u362 u363 u364 u365 z17_ z18_ x207_3 BK305 BK306 HB k3 z19_ HK3 c65b0 c66b0 c67b0 HC68 ad333 A333_0 c333_0 hx333_0 HO309 HO313 z20_ z21_ z22_ z23_ HO_7 HO_205 ve333_0 HL333_0 HR333_0 HC333_0 p333 q333 z24_ z25_ z26_ z27_ z28_ z29_ z30_ z31_ z32_ z33_
                exact hP3.out
               case rest => as_aux_lemma =>
                clear HC68
                obtain ⟨kq, x267_67, rfl, HA, HJ67, HO_7, HO_205, BK305, BK306, HR333_0, HB⟩ := hcut
                cases kq with
                | zero => exact absurd HA.out (by simp [laws_FnDogsTurnOfAll.j3])
                | succ kj67 =>
                 have H := HA.out
                 clear HA
                 simp only [laws_FnDogsTurnOfAll.j3] at H
                 by_cases c88 : x267_67 = true
                 ·
                  subst c88
                  rw [if_pos rfl] at H
                  exact absurd ((Option.some.inj H).trans HRT.out) (by decide)
                 ·
                  replace c88 := Bool.eq_false_iff.mpr c88
                  subst c88
                  rw [if_neg (show ¬ (false = true) by decide)] at H
                  by_cases c89 : x207_3 > 2
                  ·
                   rw [if_pos c89] at H
                   have c89b0 : decide (2 < x207_3) = true := decide_eq_true c89
                   clear c89
                   have H' := Aside0.mk H
                   clear H
                   go_wp2
                   go_roundg kj67
                   case measure => have := HJ9.out; have := HJ55.out; have := HK3.out; have := HJ67.out; omega
                   case rel => exact ⟨(wrap64 (x207_3 + 1)), (by first | rfl | (simp; done) | (simp [*]; done)), H', ⟨by have := HJ9.out; have := HJ55.out; have := HK3.out; have := HJ67.out; omega⟩, ⟨by (with_reducible repeat (first | apply Kd.S_alloc | apply Kd.S_drewN | apply Kd.S_drew)); exact HO_7.out⟩, ⟨by (with_reducible repeat (first | apply Kd.S_alloc | apply Kd.S_drewN | apply Kd.S_drew)); exact HO_205.out⟩, ⟨bk_⟩, ⟨bk_⟩, ⟨bw_⟩⟩
                  ·
                   rw [if_neg c89] at H
                   have c89b0 : decide (2 < x207_3) = false := decide_eq_false c89
                   clear c89
                   by_cases c90 : 2 < ((rd_L1 t307 x207_3).length : Int)
                   ·
                    rw [if_pos c90] at H
                    have c90b0 : decide (2 < ((rd_L1 t307 x207_3).length : Int)) = true := decide_eq_true c90
                    have c90b1 : decide (2 < (rd_L1 t307 x207_3).length) = true := decide_eq_true (by omega)
                    clear c90
                    by_cases c91 : 1 < ((rd_L1 t307 x207_3).length : Int)
                    ·
                     rw [if_pos c91] at H
                     have c91b0 : decide (1 < ((rd_L1 t307 x207_3).length : Int)) = true := decide_eq_true c91
                     have c91b1 : decide (1 < (rd_L1 t307 x207_3).length) = true := decide_eq_true (by omega)
                     clear c91
                     by_cases c92 : 0 < ((rd_L1 t307 x207_3).length : Int)
                     ·
                      rw [if_pos c92] at H
                      have c92b0 : decide (0 < ((rd_L1 t307 x207_3).length : Int)) = true := decide_eq_true c92
                      have c92b1 : decide (0 < (rd_L1 t307 x207_3).length) = true := decide_eq_true (by omega)
                      clear c92
                      by_cases c93 : 3 < ((rd_L1 t307 x207_3).length : Int)
                      ·
                       rw [if_pos c93] at H
                       have c93b0 : decide (3 < ((rd_L1 t307 x207_3).length : Int)) = true := decide_eq_true c93
                       have c93b1 : decide (3 < (rd_L1 t307 x207_3).length) = true := decide_eq_true (by omega)
                       clear c93
                       have HC94 := Aside0.mk H
                       clear H
                       try go_wp2
                       have n0_ := Aside0.mk (Kd.S_drew HO_7.out)
                       have n1_ := Aside0.mk (Kd.S_drew HO_205.out)
                       have n2_ := Aside0.mk (blk_drew BK305.out)
                       have n3_ := Aside0.mk (blk_drew BK306.out)
                       have n4_ := Aside0.mk (Kd.C_drew HR333_0.out)
                       have n5_ := Aside0.mk (below_drew1 HB.out)
                       clear HO_7
                       clear HO_205
                       clear BK305
                       clear BK306
                       clear HR333_0
                       clear HB
                       have HO_7 := n0_
                       have HO_205 := n1_
                       have BK305 := n2_
                       have BK306 := n3_
                       have HR333_0 := n4_
                       have HB := n5_
                       clear n0_ n1_ n2_ n3_ n4_ n5_
                       have p346 : 0 ≤ (2 : Int) := (by omega)
                       have q346 : 2 < ((rd_L1 t307 x207_3).length : Int) := of_decide_eq_true (by first | (with_reducible assumption) | assumption)
                       obtain ⟨ad346, e346, hx346_0⟩ := Kd.at_int (by repeat (first | (with_reducible exact HR333_0.out) | (with_reducible refine Kd.C_alloc ?_ _) | (with_reducible refine Kd.C_drewN ?_ _) | (with_reducible refine Kd.C_drew ?_) | exact HR333_0.out)) 2 p346 q346
                       cases e346
                       (try simp only [show (2 : Int).toNat = 2 from rfl, Nat.reduceMul, Nat.reduceEqDiff, Go.Addr.add, ↓reduceIte] at hx346_0)
                       have qi346 : (2 < (rd_L1 t307 x207_3).length) = True := eq_true (by omega)
                       (try rw [show ((2 : Int)).toNat = 2 from rfl] at hx346_0)
                       replace p346 := eq_true p346
                       replace q346 := eq_true q346
                       have p347 : 0 ≤ (1 : Int) := (by omega)
                       have q347 : 1 < ((rd_L1 t307 x207_3).length : Int) := of_decide_eq_true (by first | (with_reducible assumption) | assumption)
                       obtain ⟨ad347, e347, hx347_0⟩ := Kd.at_int (by repeat (first | (with_reducible exact HR333_0.out) | (with_reducible refine Kd.C_alloc ?_ _) | (with_reducible refine Kd.C_drewN ?_ _) | (with_reducible refine Kd.C_drew ?_) | exact HR333_0.out)) 1 p347 q347
                       obtain rfl : ad346 = ad347 := (by injection e347)
                       (try simp only [show (1 : Int).toNat = 1 from rfl, Nat.reduceMul, Nat.reduceEqDiff, Go.Addr.add, ↓reduceIte] at hx347_0)
                       have qi347 : (1 < (rd_L1 t307 x207_3).length) = True := eq_true (by omega)
                       (try rw [show ((1 : Int)).toNat = 1 from rfl] at hx347_0)
                       replace p347 := eq_true p347
                       replace q347 := eq_true q347
                       have p348 : 0 ≤ (0 : Int) := (by omega)
                       have q348 : 0 < ((rd_L1 t307 x207_3).length : Int) := of_decide_eq_true (by first | (with_reducible assumption) | assumption)
                       obtain ⟨ad348, e348, hx348_0⟩ := Kd.at_int (by repeat (first | (with_reducible exact HR333_0.out) | (with_reducible refine Kd.C_alloc ?_ _) | (with_reducible refine Kd.C_drewN ?_ _) | (with_reducible refine Kd.C_drew ?_) | exact HR333_0.out)) 0 p348 q348
                       obtain rfl : ad346 = ad348 := (by injection e348)
                       have qi348 : (0 < (rd_L1 t307 x207_3).length) = True := eq_true (by omega)
                       (try rw [show ((0 : Int)).toNat = 0 from rfl] at hx348_0)
                       (try rw [Addr.add_zero'] at hx348_0)
                       replace p348 := eq_true p348
                       replace q348 := eq_true q348
                       have p349 : 0 ≤ (3 : Int) := (by omega)
                       have q349 : 3 < ((rd_L1 t307 x207_3).length : Int) := of_decide_eq_true (by first | (with_reducible assumption) | assumption)
                       obtain ⟨ad349, e349, hx349_0⟩ := Kd.at_int (by repeat (first | (with_reducible exact HR333_0.out) | (with_reducible refine Kd.C_alloc ?_ _) | (with_reducible refine Kd.C_drewN ?_ _) | (with_reducible refine Kd.C_drew ?_) | exact HR333_0.out)) 3 p349 q349
                       obtain rfl : ad346 = ad349 := (by injection e349)
                       (try simp only [show (3 : Int).toNat = 3 from rfl, Nat.reduceMul, Nat.reduceEqDiff, Go.Addr.add, ↓reduceIte] at hx349_0)
                       have qi349 : (3 < (rd_L1 t307 x207_3).length) = True := eq_true (by omega)
                       (try rw [show ((3 : Int)).toNat = 3 from rfl] at hx349_0)
                       replace p349 := eq_true p349
                       replace q349 := eq_true q349
                       refine start_ (n := 19) (S := fun w' => w'.cell? ⟨gb305, 0, none⟩ = some (.int .i64 a0_0) ∧ w'.cell? ⟨gb305, 1, none⟩ = some (.int .i64 a0_1) ∧ w'.cell? ⟨gb305, 2, none⟩ = some (.int .i64 a0_2) ∧ w'.cell? ⟨gb305, 3, none⟩ = some (.int .i64 a0_3) ∧ w'.cell? ⟨ad346.block, ad346.off + 2, none⟩ = some (.int .i64 (rd (rd_L1 t307 x207_3) 2)) ∧ w'.cell? ⟨ad346.block, ad346.off + 1, none⟩ = some (.int .i64 (rd (rd_L1 t307 x207_3) 1)) ∧ w'.cell? ad346 = some (.int .i64 (rd (rd_L1 t307 x207_3) 0)) ∧ w'.cell? ⟨ad346.block, ad346.off + 3, none⟩ = some (.int .i64 (rd (rd_L1 t307 x207_3) 3))) (ds := []) #[false, false, false, false, false, false, false, false, false, false, false, false, false, false, false, false, false, false, false] (by kernel_rfl) rfl rfl ⟨(blk_cell BK305.out 0).trans rfl, (blk_cell BK305.out 1).trans rfl, (blk_cell BK305.out 2).trans rfl, (blk_cell BK305.out 3).trans rfl, hx346_0, hx347_0, hx348_0, hx349_0⟩ (fun hHeld => ?_); refine with_tabW laws_FnDogsTurnOfAll.tab18 laws_FnDogsTurnOfAll.bits18 (fun HT_ HW_ => ?_)
                       generalize wc.drew = w95 at HO_7 HO_205 BK305 BK306 HR333_0 HB hx346_0 hx347_0 hx348_0 hx349_0 hHeld ⊢
                       refine pu_ 0 270 19 1 ?_
                       refine pu_ 1 271 19 3 ?_
                       refine pu_ 3 273 19 11 ?_
                       refine pu_ 4 274 19 27 ?_
                       refine pu_ 7 277 19 155 ?_
                       refine pu_ 9 279 19 667 ?_
                       refine pu_ 10 280 19 1691 ?_
                       refine pu_ 13 283 19 9883 ?_
                       refine pu_ 14 284 19 26267 ?_
                       refine tk_ 2 272 19 26271 hHeld ?_
                       refine tk_ 5 275 19 26303 hHeld ?_
                       refine pu_ 6 276 19 26367 ?_
                       refine tk_ 8 278 19 26623 hHeld ?_
                       refine tk_ 11 281 19 28671 hHeld ?_
                       refine pu_ 12 282 19 32767 ?_
                       refine tk_ 15 285 19 65535 hHeld ?_
                       refine pu_ 16 286 19 131071 ?_
                       refine pu_ 17 287 19 262143 ?_
                       refine pu_ 18 25 19 524287 ?_
                       refine done_ (done_of HT_.out (by kernel_rfl)) ?_
                       try go_wp2
                       have n0_ := Aside0.mk (Kd.S_drew HO_7.out)
                       have n1_ := Aside0.mk (Kd.S_drew HO_205.out)
                       have n2_ := Aside0.mk (blk_drew BK305.out)
                       have n3_ := Aside0.mk (blk_drew BK306.out)
                       have n4_ := Aside0.mk (Kd.C_drew HR333_0.out)
                       have n5_ := Aside0.mk (below_drew1 HB.out)
                       clear HO_7
                       clear HO_205
                       clear BK305
                       clear BK306
                       clear HR333_0
                       clear HB
                       have HO_7 := n0_
                       have HO_205 := n1_
                       have BK305 := n2_
                       have BK306 := n3_
                       have HR333_0 := n4_
                       have HB := n5_
                       clear n0_ n1_ n2_ n3_ n4_ n5_
                       have p350 : 0 ≤ (1 : Int) := (by omega)
                       have q350 : 1 < ((rd_L1 t307 x207_3).length : Int) := of_decide_eq_true (by first | (with_reducible assumption) | assumption)
                       obtain ⟨ad350, e350, hx350_0⟩ := Kd.at_int (by repeat (first | (with_reducible exact HR333_0.out) | (with_reducible refine Kd.C_alloc ?_ _) | (with_reducible refine Kd.C_drewN ?_ _) | (with_reducible refine Kd.C_drew ?_) | exact HR333_0.out)) 1 p350 q350
                       obtain rfl : ad346 = ad350 := (by injection e350)
                       (try simp only [show (1 : Int).toNat = 1 from rfl, Nat.reduceMul, Nat.reduceEqDiff, Go.Addr.add, ↓reduceIte] at hx350_0)
                       have qi350 : (1 < (rd_L1 t307 x207_3).length) = True := eq_true (by omega)
                       (try rw [show ((1 : Int)).toNat = 1 from rfl] at hx350_0)
                       replace p350 := eq_true p350
                       replace q350 := eq_true q350
                       have p351 : 0 ≤ (0 : Int) := (by omega)
                       have q351 : 0 < ((rd_L1 t307 x207_3).length : Int) := of_decide_eq_true (by first | (with_reducible assumption) | assumption)
                       obtain ⟨ad351, e351, hx351_0⟩ := Kd.at_int (by repeat (first | (with_reducible exact HR333_0.out) | (with_reducible refine Kd.C_alloc ?_ _) | (with_reducible refine Kd.C_drewN ?_ _) | (with_reducible refine Kd.C_drew ?_) | exact HR333_0.out)) 0 p351 q351
                       obtain rfl : ad346 = ad351 := (by injection e351)
                       have qi351 : (0 < (rd_L1 t307 x207_3).length) = True := eq_true (by omega)
                       (try rw [show ((0 : Int)).toNat = 0 from rfl] at hx351_0)
                       (try rw [Addr.add_zero'] at hx351_0)
                       replace p351 := eq_true p351
                       replace q351 := eq_true q351
                       have p352 : 0 ≤ (3 : Int) := (by omega)
                       have q352 : 3 < ((rd_L1 t307 x207_3).length : Int) := of_decide_eq_true (by first | (with_reducible assumption) | assumption)
                       obtain ⟨ad352, e352, hx352_0⟩ := Kd.at_int (by repeat (first | (with_reducible exact HR333_0.out) | (with_reducible refine Kd.C_alloc ?_ _) | (with_reducible refine Kd.C_drewN ?_ _) | (with_reducible refine Kd.C_drew ?_) | exact HR333_0.out)) 3 p352 q352
                       obtain rfl : ad346 = ad352 := (by injection e352)
                       (try simp only [show (3 : Int).toNat = 3 from rfl, Nat.reduceMul, Nat.reduceEqDiff, Go.Addr.add, ↓reduceIte] at hx352_0)
                       have qi352 : (3 < (rd_L1 t307 x207_3).length) = True := eq_true (by omega)
                       (try rw [show ((3 : Int)).toNat = 3 from rfl] at hx352_0)
                       replace p352 := eq_true p352
                       replace q352 := eq_true q352
                       have p353 : 0 ≤ (2 : Int) := (by omega)
                       have q353 : 2 < ((rd_L1 t307 x207_3).length : Int) := of_decide_eq_true (by first | (with_reducible assumption) | assumption)
                       obtain ⟨ad353, e353, hx353_0⟩ := Kd.at_int (by repeat (first | (with_reducible exact HR333_0.out) | (with_reducible refine Kd.C_alloc ?_ _) | (with_reducible refine Kd.C_drewN ?_ _) | (with_reducible refine Kd.C_drew ?_) | exact HR333_0.out)) 2 p353 q353
                       obtain rfl : ad346 = ad353 := (by injection e353)
                       (try simp only [show (2 : Int).toNat = 2 from rfl, Nat.reduceMul, Nat.reduceEqDiff, Go.Addr.add, ↓reduceIte] at hx353_0)
                       have qi353 : (2 < (rd_L1 t307 x207_3).length) = True := eq_true (by omega)
                       (try rw [show ((2 : Int)).toNat = 2 from rfl] at hx353_0)
                       replace p353 := eq_true p353
                       replace q353 := eq_true q353
                       have p354 : 0 ≤ (1 : Int) := (by omega)
                       have q354 : 1 < ((rd_L1 t307 x207_3).length : Int) := of_decide_eq_true (by first | (with_reducible assumption) | assumption)
                       obtain ⟨ad354, e354, hx354_0⟩ := Kd.at_int (by repeat (first | (with_reducible exact HR333_0.out) | (with_reducible refine Kd.C_alloc ?_ _) | (with_reducible refine Kd.C_drewN ?_ _) | (with_reducible refine Kd.C_drew ?_) | exact HR333_0.out)) 1 p354 q354
                       obtain rfl : ad346 = ad354 := (by injection e354)
                       (try simp only [show (1 : Int).toNat = 1 from rfl, Nat.reduceMul, Nat.reduceEqDiff, Go.Addr.add, ↓reduceIte] at hx354_0)
                       have qi354 : (1 < (rd_L1 t307 x207_3).length) = True := eq_true (by omega)
                       (try rw [show ((1 : Int)).toNat = 1 from rfl] at hx354_0)
                       replace p354 := eq_true p354
                       replace q354 := eq_true q354
                       refine start_ (n := 26) (S := fun w' => w'.cell? ⟨gb305, 0, none⟩ = some (.int .i64 a0_0) ∧ w'.cell? ⟨gb305, 1, none⟩ = some (.int .i64 a0_1) ∧ w'.cell? ⟨gb305, 2, none⟩ = some (.int .i64 a0_2) ∧ w'.cell? ⟨gb305, 3, none⟩ = some (.int .i64 a0_3) ∧ w'.cell? ⟨ad346.block, ad346.off + 1, none⟩ = some (.int .i64 (rd (rd_L1 t307 x207_3) 1)) ∧ w'.cell? ad346 = some (.int .i64 (rd (rd_L1 t307 x207_3) 0)) ∧ w'.cell? ⟨ad346.block, ad346.off + 3, none⟩ = some (.int .i64 (rd (rd_L1 t307 x207_3) 3)) ∧ w'.cell? ⟨ad346.block, ad346.off + 2, none⟩ = some (.int .i64 (rd (rd_L1 t307 x207_3) 2)) ∧ w'.cell? ⟨ad346.block, ad346.off + 1, none⟩ = some (.int .i64 (rd (rd_L1 t307 x207_3) 1))) (ds := []) #[false, false, false, false, false, false, false, false, false, false, false, false, false, false, false, false, false, false, false, false, false, false, false, false, false, false] (by kernel_rfl) rfl rfl ⟨(blk_cell BK305.out 0).trans rfl, (blk_cell BK305.out 1).trans rfl, (blk_cell BK305.out 2).trans rfl, (blk_cell BK305.out 3).trans rfl, hx350_0, hx351_0, hx352_0, hx353_0, hx354_0⟩ (fun hHeld => ?_); refine with_tabW laws_FnDogsTurnOfAll.tab19 laws_FnDogsTurnOfAll.bits19 (fun HT_ HW_ => ?_)
                       generalize w95.drew = w96 at HO_7 HO_205 BK305 BK306 HR333_0 HB hx350_0 hx351_0 hx352_0 hx353_0 hx354_0 hHeld ⊢
                       refine pu_ 0 288 26 1 ?_
                       refine pu_ 2 290 26 5 ?_
                       refine pu_ 3 291 26 13 ?_
                       refine pu_ 6 294 26 77 ?_
                       refine pu_ 8 296 26 333 ?_
                       refine pu_ 9 297 26 845 ?_
                       refine pu_ 13 301 26 9037 ?_
                       refine pu_ 14 302 26 25421 ?_
                       refine pu_ 17 305 26 156493 ?_
                       refine pu_ 18 306 26 418637 ?_
                       refine pu_ 20 308 26 1467213 ?_
                       refine pu_ 21 309 26 3564365 ?_
                       refine tk_ 1 289 26 3564367 hHeld ?_
                       refine tk_ 4 292 26 3564383 hHeld ?_
                       refine pu_ 5 293 26 3564415 ?_
                       refine tk_ 7 295 26 3564543 hHeld ?_
                       refine tk_ 10 298 26 3565567 hHeld ?_
                       refine pu_ 11 299 26 3567615 ?_
                       refine pu_ 12 300 26 3571711 ?_
                       refine tk_ 15 303 26 3604479 hHeld ?_
                       refine pu_ 16 304 26 3670015 ?_
                       refine tk_ 19 307 26 4194303 hHeld ?_
                       refine tk_ 22 310 26 8388607 hHeld ?_
                       refine pu_ 23 311 26 16777215 ?_
                       refine pu_ 24 312 26 33554431 ?_
                       refine pu_ 25 26 26 67108863 ?_
                       refine done_ (done_of HT_.out (by kernel_rfl)) ?_
                       go_upto_region 20 with (fail)
                       go_cut [328] from 313 to 328 (fun v328 wc => ∃ (kq : Nat) (x328_93 : Bool), v328 = .bool x328_93 ∧ Aside0 (laws_FnDogsTurnOfAll.j4 kq a1 t307 x207_3 t307 (t307.length : Int) x207_3 x328_93 a0_0 a0_1 a0_2 a0_3 a2_0 a2_1 a2_2 a2_3 = some r) ∧ Aside0 (kq ≤ kj67) ∧ Aside0 (Kd.S (Kd.slice 3 (Kd.int .i64)) 32 wc w.heap.size (fun _ => True) (.slice (some ad333) t307.length co64) t307) ∧ Aside0 (Kd.S (Kd.slice 3 (Kd.int .i64)) 32 wc w.heap.size (fun _ => True) (.slice (some ad333) t307.length co64) t307) ∧ Aside0 (wc.heap[gb305]? = some (.cells #[.int .i64 a0_0, .int .i64 a0_1, .int .i64 a0_2, .int .i64 a0_3] 23 (0, 0))) ∧ Aside0 (wc.heap[gb306]? = some (.cells #[.int .i64 a2_0, .int .i64 a2_1, .int .i64 a2_2, .int .i64 a2_3] 23 (0, 0))) ∧ Aside0 (Kd.C (Kd.int .i64) wc (some ad346) (rd_L1 t307 x207_3).length (rd_L1 t307 x207_3)) ∧ Aside0 (Below w.heap.size w wc))
                       case first =>
                        rename_i z1_ z2_ z3_ z4_ z5_ z6_ z7_ z8_ z9_ z10_ z11_ z12_ z13_ z14_ z15_ z16_ z17_ z18_ z19_ z20_ z21_ z22_ z23_ z24_ z25_ z26_ z27_ z28_ z29_ z30_ z31_ z32_ z33_ z34_ z35_ z36_ z37_ z38_ z39_ z40_ z41_ z42_ z43_ z44_ z45_ z46_ z47_ z48_ z49_ z50_ z51_ z52_ z53_ z54_ z55_ z56_ z57_ z58_ z59_ z60_ z61_ z62_ z63_ z64_ z65_ z66_ z67_ z68_ z69_ z70_ z71_ z72_ z73_ z74_ z75_ z76_ z77_ z78_ z79_ z80_ z81_ z82_ z83_ z84_ z85_ z86_ z87_ z88_ z89_ z90_ z91_ z92_ z93_ z94_ z95_ z96_ z97_ z98_
                        revert hL0 HRT hu23 t307 t311 t314 A5 t315 t316 t317 A6 t318 t319 t320 A7 t321 t322 t323 A8 t324 t325 t326 A9 z1_ gb305 w11 GW305 GE305 gb306 w12 GW306 GE306 NB305_306 NB306_305 hnb13 hnc13 hcz14_0 hcz14_1 hcz14_2 hcz14_3 hfz14_0 hfz14_1 hfz14_2 hfz14_3 w15 hcz16_0 hcz16_1 hcz16_2 hcz16_3 hfz16_0 hfz16_1 hfz16_2 hfz16_3 w17 v312 hcz18_0 hcz18_1 hcz18_2 hcz18_3 hfz18_0 hfz18_1 hfz18_2 hfz18_3 w19 hcz20_0 hcz20_1 hcz20_2 hcz20_3 hfz20_0 hfz20_1 hfz20_2 hfz20_3 w21 hcz22_0 hcz22_1 hcz22_2 hcz22_3 hfz22_0 hfz22_1 hfz22_2 hfz22_3 w23 hcz24_0 hcz24_1 hcz24_2 hcz24_3 hfz24_0 hfz24_1 hfz24_2 hfz24_3 w25 z2_ z3_ z4_ z5_ u120 u121 u122 u123 u124 u125 u126 u127 u128 u129 u130 u131 u132 u133 u134 u135 u136 u137 u138 u139 u140 u141 u142 u143 u144 u145 u146 u147 u148 u149 u150 u151 u152 u153 u154 u155 u156 u157 u158 u159 u160 u161 u162 u163 u164 u165 u166 u167 u168 u169 u170 u171 u172 u173 u174 u175 u176 u177 u178 u179 u180 u181 u182 z6_ z7_ z8_ kj9 HJ9 z9_ z10_ z11_ z12_ z13_ A4 z14_ u185 u186 u187 u188 u189 u190 u191 u192 u193 u194 u195 u196 u197 u198 u199 u200 u201 u202 u203 z15_ z16_ z17_ kj55 HJ55 co64 wr u6 u23 u24 u25 u26 u27 u28 u29 u208 u209 u210 u211 z18_ z19_ z20_ z21_ z22_ z23_ z24_ z25_ z26_ z27_ z28_ z29_ z30_ z31_ z32_ z33_ z34_ z35_ z36_ z37_ z38_ z39_ z40_ z41_ z42_ z43_ z44_ z45_ z46_ z47_ z48_ z49_ z50_ z51_ z52_ z53_ z54_ z55_ z56_ z57_ z58_ z59_ z60_ z61_ z62_ z63_ z64_ z65_ z66_ z67_ z68_ z69_ z70_ z71_ z72_ u267 u268 u269 u270 u271 u272 u273 u274 u275 u276 u277 u278 u279 u280 u281 u282 u283 u284 u285 u286 u287 u288 u289 u290 u291 u292 u293 u294 u295 u296 u297 u298 u299 u300 u301 u302 u303 u304 u305 u306 u307 u308 u309 u310 u311 u312 u313 u314 u315 u316 u317 u318 u319 u320 u321 u322 u323 u324 u325 u326 u327 u328 u329 u330 u331 u332 u333 u334 u335 u336 u337 u338 u339 u340 u341 u342 u343 u344 u345 u346 u347 u348 u349 u350 u351 u352 u353 u354 u355 u356 u357 u358 u359 u360 u361 u362 u363 u364 u365 z73_ z74_ x207_3 z75_ z76_ z77_ k3 z78_ HK3 c65b0 c66b0 c67b0 ad333 c333_0 HO309 HO313 z79_ z80_ z81_ z82_ z83_ z84_ ve333_0 HC333_0 p333 q333 z85_ z86_ wc u212 u213 u214 u215 u216 u217 u218 u219 u220 u221 u222 u223 u224 u225 u226 u227 u228 u229 u230 u231 u232 u233 u234 u235 u236 u237 u238 u239 u240 u241 u242 u243 u244 u245 u246 u247 u248 u249 u250 u251 u252 u253 u254 u255 u256 u257 u258 u259 u260 u261 u262 u263 u264 u265 u266 kj67 HJ67 c89b0 c90b0 c90b1 c91b0 c91b1 c92b0 c92b1 c93b0 c93b1 HC94 ad346 hx333_0 HL333_0 z87_ qi346 p346 q346 qi347 p347 q347 qi348 p348 q348 qi349 p349 q349 z88_ z89_ w95 hx346_0 hx347_0 hx348_0 hx349_0 z90_ e347 e348 e349 e350 qi350 p350 q350 e351 qi351 p351 q351 e352 qi352 p352 q352 e353 qi353 p353 q353 e354 qi354 p354 q354 HT_ HW_ w96 HO_7 HO_205 BK305 BK306 HR333_0 HB hx350_0 hx351_0 hx352_0 hx353_0 hx354_0 hHeld z91_ z92_ z93_ z94_ z95_ z96_ z97_ z98_
                        exact hP4.out
                       case rest =>
                        rename_i z1_ z2_ z3_ z4_ z5_ z6_ z7_ z8_ z9_ z10_ z11_ z12_ z13_ z14_ z15_ z16_ z17_ z18_ z19_ z20_ z21_ z22_ z23_ z24_ z25_ z26_ z27_ z28_ z29_ z30_ z31_ z32_ z33_ z34_ z35_ z36_ z37_ z38_ z39_ z40_ z41_ z42_ z43_ z44_ z45_ z46_ z47_ z48_ z49_ z50_ z51_ z52_ z53_ z54_ z55_ z56_ z57_ z58_ z59_ z60_ z61_ z62_ z63_ z64_ z65_ z66_ z67_ z68_ z69_ z70_ z71_ z72_ z73_ z74_ z75_ z76_ z77_ z78_ z79_ z80_ z81_ z82_ z83_ z84_ z85_ z86_ z87_ z88_ z89_ z90_ z91_ z92_ z93_ z94_ z95_ z96_ z97_ z98_ z99_ z100_ z101_ z102_ z103_ z104_ z105_ z106_ z107_ z108_ z109_ z110_ z111_
                        revert hL0 HRT hu23 t307 t311 t314 A5 t315 t316 t317 A6 t318 t319 t320 A7 t321 t322 t323 A8 t324 t325 t326 A9 z1_ gb305 w11 GW305 GE305 gb306 w12 GW306 GE306 NB305_306 NB306_305 hnb13 hnc13 hcz14_0 hcz14_1 hcz14_2 hcz14_3 hfz14_0 hfz14_1 hfz14_2 hfz14_3 w15 hcz16_0 hcz16_1 hcz16_2 hcz16_3 hfz16_0 hfz16_1 hfz16_2 hfz16_3 w17 v312 hcz18_0 hcz18_1 hcz18_2 hcz18_3 hfz18_0 hfz18_1 hfz18_2 hfz18_3 w19 hcz20_0 hcz20_1 hcz20_2 hcz20_3 hfz20_0 hfz20_1 hfz20_2 hfz20_3 w21 hcz22_0 hcz22_1 hcz22_2 hcz22_3 hfz22_0 hfz22_1 hfz22_2 hfz22_3 w23 hcz24_0 hcz24_1 hcz24_2 hcz24_3 hfz24_0 hfz24_1 hfz24_2 hfz24_3 w25 z2_ z3_ z4_ z5_ u120 u121 u122 u123 u124 u125 u126 u127 u128 u129 u130 u131 u132 u133 u134 u135 u136 u137 u138 u139 u140 u141 u142 u143 u144 u145 u146 u147 u148 u149 u150 u151 u152 u153 u154 u155 u156 u157 u158 u159 u160 u161 u162 u163 u164 u165 u166 u167 u168 u169 u170 u171 u172 u173 u174 u175 u176 u177 u178 u179 u180 u181 u182 z6_ z7_ z8_ kj9 HJ9 z9_ z10_ z11_ z12_ z13_ A4 z14_ u185 u186 u187 u188 u189 u190 u191 u192 u193 u194 u195 u196 u197 u198 u199 u200 u201 u202 u203 z15_ z16_ z17_ kj55 HJ55 co64 wr u6 u23 u24 u25 u26 u27 u28 u29 u208 u209 u210 u211 z18_ z19_ z20_ z21_ z22_ z23_ z24_ z25_ z26_ z27_ z28_ z29_ z30_ z31_ z32_ z33_ z34_ z35_ z36_ z37_ z38_ z39_ z40_ z41_ z42_ z43_ z44_ z45_ z46_ z47_ z48_ z49_ z50_ z51_ z52_ z53_ z54_ z55_ z56_ z57_ z58_ z59_ z60_ z61_ z62_ z63_ z64_ z65_ z66_ z67_ z68_ z69_ z70_ z71_ z72_ u267 u268 u269 u270 u271 u272 u273 u274 u275 u276 u277 u278 u279 u280 u281 u282 u283 u284 u285 u286 u287 u288 u289 u290 u291 u292 u293 u294 u295 u296 u297 u298 u299 u300 u301 u302 u303 u304 u305 u306 u307 u308 u309 u310 u311 u312 z73_ z74_ z75_ z76_ z77_ z78_ z79_ z80_ z81_ z82_ z83_ z84_ z85_ z86_ z87_ z88_ u329 u330 u331 u332 u333 u334 u335 u336 u337 u338 u339 u340 u341 u342 u343 u344 u345 u346 u347 u348 u349 u350 u351 u352 u353 u354 u355 u356 u357 u358 u359 u360 u361 u362 u363 u364 u365 z89_ z90_ x207_3 z91_ z92_ z93_ k3 z94_ HK3 c65b0 c66b0 c67b0 ad333 c333_0 HO309 HO313 z95_ z96_ z97_ z98_ z99_ z100_ ve333_0 HC333_0 p333 q333 z101_ z102_ z103_ u212 u213 u214 u215 u216 u217 u218 u219 u220 u221 u222 u223 u224 u225 u226 u227 u228 u229 u230 u231 u232 u233 u234 u235 u236 u237 u238 u239 u240 u241 u242 u243 u244 u245 u246 u247 u248 u249 u250 u251 u252 u253 u254 u255 u256 u257 u258 u259 u260 u261 u262 u263 u264 u265 u266 kj67 HJ67 c89b0 c90b0 c90b1 c91b0 c91b1 c92b0 c92b1 c93b0 c93b1 HC94 ad346 hx333_0 HL333_0 z104_ qi346 p346 q346 qi347 p347 q347 qi348 p348 q348 qi349 p349 q349 z105_ z106_ w95 hx346_0 hx347_0 hx348_0 hx349_0 z107_ e347 e348 e349 e350 qi350 p350 q350 e351 qi351 p351 q351 e352 qi352 p352 q352 e353 qi353 p353 q353 e354 qi354 p354 q354 HT_ HW_ w96 HO_7 HO_205 BK305 BK306 HR333_0 HB hx350_0 hx351_0 hx352_0 hx353_0 hx354_0 hHeld z108_ z109_ z110_ z111_ wc u313 u314 u315 u316 u317 u318 u319 u320 u321 u322 u323 u324 u325 u326 u327 u328 hcut
                        exact hP5.out
                      ·
                       rw [if_neg c93] at H
                       exact absurd H (by simp)
                     ·
                      rw [if_neg c92] at H
                      exact absurd H (by simp)
                    ·
                     rw [if_neg c91] at H
                     exact absurd H (by simp)
                   ·
                    rw [if_neg c90] at H
                    exact absurd H (by simp)
              ·
               rw [if_neg c67] at H
               exact absurd H (by simp)
             ·
              rw [if_neg c66] at H
              exact absurd H (by simp)
            ·
             rw [if_neg c65] at H
             have c65b0 : decide (x207_3 < (t307.length : Int)) = false := decide_eq_false c65
             clear c65
             have H' := Aside0.mk H
             clear H
             go_wp2
             go_meet
             case rel => exact ⟨_, H', ⟨by have := HJ9.out; have := HJ55.out; have := HK3.out; first | omega | exact Nat.le_refl _⟩, ⟨bk_⟩, ⟨bk_⟩, ⟨bw_⟩⟩
      ·
       replace c55 := Bool.eq_false_iff.mpr c55
       subst c55
       rw [if_neg (show ¬ (false = true) by decide)] at H
       have H' := Aside0.mk H
       clear H
       go_wp2
       go_meet
       case rel => exact ⟨_, H', ⟨by have := HJ9.out; first | omega | exact Nat.le_refl _⟩, ⟨bk_⟩, ⟨bk_⟩, ⟨bw_⟩⟩
     case rest => as_aux_lemma =>
      clear HC54
      obtain ⟨kq, HA, HJ53, BK305, BK306, HB⟩ := hcut
      cases kq with
      | zero => exact absurd HA.out (by simp [laws_FnDogsTurnOfAll.j5])
      | succ kj53 =>
       have H := HA.out
       clear HA
       simp only [laws_FnDogsTurnOfAll.j5] at H
       replace H := Option.bind_eq_some_iff.mp H
       obtain ⟨⟨t361, t362, t363, t364, t365⟩, A1110, H⟩ := H
       (try dsimp only at H)
       have A111 := Aside0.mk A1110
       clear A1110
       replace H := Option.bind_eq_some_iff.mp H
       obtain ⟨⟨t366, t367, t368, t369, t370⟩, A1120, H⟩ := H
       (try dsimp only at H)
       have A112 := Aside0.mk A1120
       clear A1120
       replace H := Option.bind_eq_some_iff.mp H
       obtain ⟨⟨t371, t372, t373⟩, A1130, H⟩ := H
       (try dsimp only at H)
       have A113 := Aside0.mk A1130
       clear A1130
       replace H := Option.bind_eq_some_iff.mp H
       obtain ⟨⟨t374, t375, t376⟩, A1140, H⟩ := H
       (try dsimp only at H)
       have A114 := Aside0.mk A1140
       clear A1140
       replace H := Option.bind_eq_some_iff.mp H
       obtain ⟨⟨t377, t378, t379⟩, A1150, H⟩ := H
       (try dsimp only at H)
       have A115 := Aside0.mk A1150
       clear A1150
       replace H := Option.bind_eq_some_iff.mp H
       obtain ⟨⟨t380, t381, t382⟩, A1160, H⟩ := H
       (try dsimp only at H)
       have A116 := Aside0.mk A1160
       clear A1160
       replace H := Option.bind_eq_some_iff.mp H
       obtain ⟨⟨t383, t384, t385, t386, t387⟩, A1170, H⟩ := H
       (try dsimp only at H)
       have A117 := Aside0.mk A1170
       clear A1170
       replace H := Option.bind_eq_some_iff.mp H
       obtain ⟨⟨t388, t389, t390, t391, t392⟩, A1180, H⟩ := H
       (try dsimp only at H)
       have A118 := Aside0.mk A1180
       clear A1180
       replace H := Option.bind_eq_some_iff.mp H
       obtain ⟨⟨t393, t394, t395, t396, t397⟩, A1190, H⟩ := H
       (try dsimp only at H)
       have A119 := Aside0.mk A1190
       clear A1190
       replace H := Option.bind_eq_some_iff.mp H
       obtain ⟨⟨t399, t400, t401, t402, t403⟩, A1200, H⟩ := H
       (try dsimp only at H)
       have A120 := Aside0.mk A1200
       clear A1200
       replace H := Option.bind_eq_some_iff.mp H
       obtain ⟨⟨t405, t406⟩, A1210, H⟩ := H
       (try dsimp only at H)
       have A121 := Aside0.mk A1210
       clear A1210
       replace H := Option.bind_eq_some_iff.mp H
       obtain ⟨⟨t407, t408⟩, A1220, H⟩ := H
       (try dsimp only at H)
       have A122 := Aside0.mk A1220
       clear A1220
       have HC123 := Aside0.mk H
       clear H
       have hnb124 := NB306_305.out
       have hnc124 := NB305_306.out
       have hcz125_0 : wc.cell? ⟨gb306, 0, none⟩ = some (.int .i64 a2_0) := (blk_cell BK306.out 0).trans rfl
       have hcz125_1 : wc.cell? ⟨gb306, 1, none⟩ = some (.int .i64 a2_1) := (blk_cell BK306.out 1).trans rfl
       have hcz125_2 : wc.cell? ⟨gb306, 2, none⟩ = some (.int .i64 a2_2) := (blk_cell BK306.out 2).trans rfl
       have hcz125_3 : wc.cell? ⟨gb306, 3, none⟩ = some (.int .i64 a2_3) := (blk_cell BK306.out 3).trans rfl
       have hfz125_0 := blk_frozen BK306.out 0
       have hfz125_1 := blk_frozen BK306.out 1
       have hfz125_2 := blk_frozen BK306.out 2
       have hfz125_3 := blk_frozen BK306.out 3
       go_upto_region 38 with (first | ((with_reducible refine gate_callee (f := 14) rfl ?_); refine goesL_ (some 368) rfl rfl Tryd.func14 (by kernel_rfl) rfl #[.agg #[.int .i64 a2_0, .int .i64 a2_1, .int .i64 a2_2, .int .i64 a2_3]] rfl (by (try simp only [List.map_toArray, List.map_cons, List.map_nil]); first | done | rfl | (simp only [List.length_drop, List.length_take]; rfl)) ?_; (with_reducible refine (impl_RatioOfTurns.calls kj53 a2_0 a2_1 a2_2 a2_3 t361 t362 t363 t364 t365 _ A111.out).mono ?_); rintro e w126 ⟨rfl, hb⟩; refine ⟨_, rfl, ?_⟩; have n0_ := Aside0.mk (blk_below (g := gb305) (o := .cells #[.int .i64 a0_0, .int .i64 a0_1, .int .i64 a0_2, .int .i64 a0_3] 23 (0, 0)) bk_ hb); have n1_ := Aside0.mk (blk_below (g := gb306) (o := .cells #[.int .i64 a2_0, .int .i64 a2_1, .int .i64 a2_2, .int .i64 a2_3] 23 (0, 0)) bk_ hb); have n2_ := Aside0.mk (below_step bw_ hb); clear BK305; clear BK306; clear HB; have BK305 := n0_; have BK306 := n1_; have HB := n2_; clear n0_ n1_ n2_; (try clear hb); (try clear hb2); (try clear hk); (try clear hi); have hcz127_0 : w126.cell? ⟨gb306, 0, none⟩ = some (.int .i64 a2_0) := (blk_cell BK306.out 0).trans rfl; have hcz127_1 : w126.cell? ⟨gb306, 1, none⟩ = some (.int .i64 a2_1) := (blk_cell BK306.out 1).trans rfl; have hcz127_2 : w126.cell? ⟨gb306, 2, none⟩ = some (.int .i64 a2_2) := (blk_cell BK306.out 2).trans rfl; have hcz127_3 : w126.cell? ⟨gb306, 3, none⟩ = some (.int .i64 a2_3) := (blk_cell BK306.out 3).trans rfl; have hfz127_0 := blk_frozen BK306.out 0; have hfz127_1 := blk_frozen BK306.out 1; have hfz127_2 := blk_frozen BK306.out 2; have hfz127_3 := blk_frozen BK306.out 3) | ((with_reducible refine gate_callee (f := 15) rfl ?_); refine goesL_ (some 376) rfl rfl Tryd.func15 (by kernel_rfl) rfl #[.agg #[.int .i64 a2_0, .int .i64 a2_1, .int .i64 a2_2, .int .i64 a2_3]] rfl (by (try simp only [List.map_toArray, List.map_cons, List.map_nil]); first | done | rfl | (simp only [List.length_drop, List.length_take]; rfl)) ?_; (with_reducible refine (spec_RatioOfTurns.calls kj53 a2_0 a2_1 a2_2 a2_3 t366 t367 t368 t369 t370 _ A112.out).mono ?_); rintro e w128 ⟨rfl, hb⟩; refine ⟨_, rfl, ?_⟩; have n0_ := Aside0.mk (blk_below (g := gb305) (o := .cells #[.int .i64 a0_0, .int .i64 a0_1, .int .i64 a0_2, .int .i64 a0_3] 23 (0, 0)) bk_ hb); have n1_ := Aside0.mk (blk_below (g := gb306) (o := .cells #[.int .i64 a2_0, .int .i64 a2_1, .int .i64 a2_2, .int .i64 a2_3] 23 (0, 0)) bk_ hb); have n2_ := Aside0.mk (below_step bw_ hb); clear BK305; clear BK306; clear HB; have BK305 := n0_; have BK306 := n1_; have HB := n2_; clear n0_ n1_ n2_; (try clear hb); (try clear hb2); (try clear hk); (try clear hi); have hcz129_0 : w128.cell? ⟨gb306, 0, none⟩ = some (.int .i64 a2_0) := (blk_cell BK306.out 0).trans rfl; have hcz129_1 : w128.cell? ⟨gb306, 1, none⟩ = some (.int .i64 a2_1) := (blk_cell BK306.out 1).trans rfl; have hcz129_2 : w128.cell? ⟨gb306, 2, none⟩ = some (.int .i64 a2_2) := (blk_cell BK306.out 2).trans rfl; have hcz129_3 : w128.cell? ⟨gb306, 3, none⟩ = some (.int .i64 a2_3) := (blk_cell BK306.out 3).trans rfl; have hfz129_0 := blk_frozen BK306.out 0; have hfz129_1 := blk_frozen BK306.out 1; have hfz129_2 := blk_frozen BK306.out 2; have hfz129_3 := blk_frozen BK306.out 3) | ((with_reducible refine gate_callee (f := 16) rfl ?_); refine goesL_ (some 384) rfl rfl Tryd.func16 (by kernel_rfl) rfl #[.agg #[.int .i64 a2_0, .int .i64 a2_1, .int .i64 a2_2, .int .i64 a2_3]] rfl (by (try simp only [List.map_toArray, List.map_cons, List.map_nil]); first | done | rfl | (simp only [List.length_drop, List.length_take]; rfl)) ?_; (with_reducible refine (impl_TimeToMeet.calls kj53 a2_0 a2_1 a2_2 a2_3 t371 t372 t373 _ A113.out).mono ?_); rintro e w130 ⟨rfl, hb⟩; refine ⟨_, rfl, ?_⟩; have n0_ := Aside0.mk (blk_below (g := gb305) (o := .cells #[.int .i64 a0_0, .int .i64 a0_1, .int .i64 a0_2, .int .i64 a0_3] 23 (0, 0)) bk_ hb); have n1_ := Aside0.mk (blk_below (g := gb306) (o := .cells #[.int .i64 a2_0, .int .i64 a2_1, .int .i64 a2_2, .int .i64 a2_3] 23 (0, 0)) bk_ hb); have n2_ := Aside0.mk (below_step bw_ hb); clear BK305; clear BK306; clear HB; have BK305 := n0_; have BK306 := n1_; have HB := n2_; clear n0_ n1_ n2_; (try clear hb); (try clear hb2); (try clear hk); (try clear hi); have hcz131_0 : w130.cell? ⟨gb306, 0, none⟩ = some (.int .i64 a2_0) := (blk_cell BK306.out 0).trans rfl; have hcz131_1 : w130.cell? ⟨gb306, 1, none⟩ = some (.int .i64 a2_1) := (blk_cell BK306.out 1).trans rfl; have hcz131_2 : w130.cell? ⟨gb306, 2, none⟩ = some (.int .i64 a2_2) := (blk_cell BK306.out 2).trans rfl; have hcz131_3 : w130.cell? ⟨gb306, 3, none⟩ = some (.int .i64 a2_3) := (blk_cell BK306.out 3).trans rfl; have hfz131_0 := blk_frozen BK306.out 0; have hfz131_1 := blk_frozen BK306.out 1; have hfz131_2 := blk_frozen BK306.out 2; have hfz131_3 := blk_frozen BK306.out 3) | ((with_reducible refine gate_callee (f := 17) rfl ?_); refine goesL_ (some 390) rfl rfl Tryd.func17 (by kernel_rfl) rfl #[.agg #[.int .i64 a2_0, .int .i64 a2_1, .int .i64 a2_2, .int .i64 a2_3]] rfl (by (try simp only [List.map_toArray, List.map_cons, List.map_nil]); first | done | rfl | (simp only [List.length_drop, List.length_take]; rfl)) ?_; (with_reducible refine (spec_TimeToMeet.calls kj53 a2_0 a2_1 a2_2 a2_3 t374 t375 t376 _ A114.out).mono ?_); rintro e w132 ⟨rfl, hb⟩; refine ⟨_, rfl, ?_⟩; have n0_ := Aside0.mk (blk_below (g := gb305) (o := .cells #[.int .i64 a0_0, .int .i64 a0_1, .int .i64 a0_2, .int .i64 a0_3] 23 (0, 0)) bk_ hb); have n1_ := Aside0.mk (blk_below (g := gb306) (o := .cells #[.int .i64 a2_0, .int .i64 a2_1, .int .i64 a2_2, .int .i64 a2_3] 23 (0, 0)) bk_ hb); have n2_ := Aside0.mk (below_step bw_ hb); clear BK305; clear BK306; clear HB; have BK305 := n0_; have BK306 := n1_; have HB := n2_; clear n0_ n1_ n2_; (try clear hb); (try clear hb2); (try clear hk); (try clear hi); have hcz133_0 : w132.cell? ⟨gb306, 0, none⟩ = some (.int .i64 a2_0) := (blk_cell BK306.out 0).trans rfl; have hcz133_1 : w132.cell? ⟨gb306, 1, none⟩ = some (.int .i64 a2_1) := (blk_cell BK306.out 1).trans rfl; have hcz133_2 : w132.cell? ⟨gb306, 2, none⟩ = some (.int .i64 a2_2) := (blk_cell BK306.out 2).trans rfl; have hcz133_3 : w132.cell? ⟨gb306, 3, none⟩ = some (.int .i64 a2_3) := (blk_cell BK306.out 3).trans rfl; have hfz133_0 := blk_frozen BK306.out 0; have hfz133_1 := blk_frozen BK306.out 1; have hfz133_2 := blk_frozen BK306.out 2; have hfz133_3 := blk_frozen BK306.out 3) | ((with_reducible refine gate_callee (f := 18) rfl ?_); refine goesL_ (some 396) rfl rfl Tryd.func18 (by kernel_rfl) rfl #[.agg #[.int .i64 a2_0, .int .i64 a2_1, .int .i64 a2_2, .int .i64 a2_3]] rfl (by (try simp only [List.map_toArray, List.map_cons, List.map_nil]); first | done | rfl | (simp only [List.length_drop, List.length_take]; rfl)) ?_; (with_reducible refine (impl_DogDistance.calls kj53 a2_0 a2_1 a2_2 a2_3 t377 t378 t379 _ A115.out).mono ?_); rintro e w134 ⟨rfl, hb⟩; refine ⟨_, rfl, ?_⟩; have n0_ := Aside0.mk (blk_below (g := gb305) (o := .cells #[.int .i64 a0_0, .int .i64 a0_1, .int .i64 a0_2, .int .i64 a0_3] 23 (0, 0)) bk_ hb); have n1_ := Aside0.mk (blk_below (g := gb306) (o := .cells #[.int .i64 a2_0, .int .i64 a2_1, .int .i64 a2_2, .int .i64 a2_3] 23 (0, 0)) bk_ hb); have n2_ := Aside0.mk (below_step bw_ hb); clear BK305; clear BK306; clear HB; have BK305 := n0_; have BK306 := n1_; have HB := n2_; clear n0_ n1_ n2_; (try clear hb); (try clear hb2); (try clear hk); (try clear hi); have hcz135_0 : w134.cell? ⟨gb306, 0, none⟩ = some (.int .i64 a2_0) := (blk_cell BK306.out 0).trans rfl; have hcz135_1 : w134.cell? ⟨gb306, 1, none⟩ = some (.int .i64 a2_1) := (blk_cell BK306.out 1).trans rfl; have hcz135_2 : w134.cell? ⟨gb306, 2, none⟩ = some (.int .i64 a2_2) := (blk_cell BK306.out 2).trans rfl; have hcz135_3 : w134.cell? ⟨gb306, 3, none⟩ = some (.int .i64 a2_3) := (blk_cell BK306.out 3).trans rfl; have hfz135_0 := blk_frozen BK306.out 0; have hfz135_1 := blk_frozen BK306.out 1; have hfz135_2 := blk_frozen BK306.out 2; have hfz135_3 := blk_frozen BK306.out 3) | ((with_reducible refine gate_callee (f := 19) rfl ?_); refine goesL_ (some 402) rfl rfl Tryd.func19 (by kernel_rfl) rfl #[.agg #[.int .i64 a2_0, .int .i64 a2_1, .int .i64 a2_2, .int .i64 a2_3]] rfl (by (try simp only [List.map_toArray, List.map_cons, List.map_nil]); first | done | rfl | (simp only [List.length_drop, List.length_take]; rfl)) ?_; (with_reducible refine (spec_DogDistance.calls kj53 a2_0 a2_1 a2_2 a2_3 t380 t381 t382 _ A116.out).mono ?_); rintro e w136 ⟨rfl, hb⟩; refine ⟨_, rfl, ?_⟩; have n0_ := Aside0.mk (blk_below (g := gb305) (o := .cells #[.int .i64 a0_0, .int .i64 a0_1, .int .i64 a0_2, .int .i64 a0_3] 23 (0, 0)) bk_ hb); have n1_ := Aside0.mk (blk_below (g := gb306) (o := .cells #[.int .i64 a2_0, .int .i64 a2_1, .int .i64 a2_2, .int .i64 a2_3] 23 (0, 0)) bk_ hb); have n2_ := Aside0.mk (below_step bw_ hb); clear BK305; clear BK306; clear HB; have BK305 := n0_; have BK306 := n1_; have HB := n2_; clear n0_ n1_ n2_; (try clear hb); (try clear hb2); (try clear hk); (try clear hi); have hcz137_0 : w136.cell? ⟨gb306, 0, none⟩ = some (.int .i64 a2_0) := (blk_cell BK306.out 0).trans rfl; have hcz137_1 : w136.cell? ⟨gb306, 1, none⟩ = some (.int .i64 a2_1) := (blk_cell BK306.out 1).trans rfl; have hcz137_2 : w136.cell? ⟨gb306, 2, none⟩ = some (.int .i64 a2_2) := (blk_cell BK306.out 2).trans rfl; have hcz137_3 : w136.cell? ⟨gb306, 3, none⟩ = some (.int .i64 a2_3) := (blk_cell BK306.out 3).trans rfl; have hfz137_0 := blk_frozen BK306.out 0; have hfz137_1 := blk_frozen BK306.out 1; have hfz137_2 := blk_frozen BK306.out 2; have hfz137_3 := blk_frozen BK306.out 3) | ((with_reducible refine gate_callee (f := 20) rfl ?_); refine goesL_ (some 408) rfl rfl Tryd.func20 (by kernel_rfl) rfl #[.agg #[.int .i64 a2_0, .int .i64 a2_1, .int .i64 a2_2, .int .i64 a2_3]] rfl (by (try simp only [List.map_toArray, List.map_cons, List.map_nil]); first | done | rfl | (simp only [List.length_drop, List.length_take]; rfl)) ?_; (with_reducible refine (impl_DistanceOf.calls kj53 a2_0 a2_1 a2_2 a2_3 t383 t384 t385 t386 t387 _ A117.out).mono ?_); rintro e w138 ⟨rfl, hb⟩; refine ⟨_, rfl, ?_⟩; have n0_ := Aside0.mk (blk_below (g := gb305) (o := .cells #[.int .i64 a0_0, .int .i64 a0_1, .int .i64 a0_2, .int .i64 a0_3] 23 (0, 0)) bk_ hb); have n1_ := Aside0.mk (blk_below (g := gb306) (o := .cells #[.int .i64 a2_0, .int .i64 a2_1, .int .i64 a2_2, .int .i64 a2_3] 23 (0, 0)) bk_ hb); have n2_ := Aside0.mk (below_step bw_ hb); clear BK305; clear BK306; clear HB; have BK305 := n0_; have BK306 := n1_; have HB := n2_; clear n0_ n1_ n2_; (try clear hb); (try clear hb2); (try clear hk); (try clear hi); have hcz139_0 : w138.cell? ⟨gb306, 0, none⟩ = some (.int .i64 a2_0) := (blk_cell BK306.out 0).trans rfl; have hcz139_1 : w138.cell? ⟨gb306, 1, none⟩ = some (.int .i64 a2_1) := (blk_cell BK306.out 1).trans rfl; have hcz139_2 : w138.cell? ⟨gb306, 2, none⟩ = some (.int .i64 a2_2) := (blk_cell BK306.out 2).trans rfl; have hcz139_3 : w138.cell? ⟨gb306, 3, none⟩ = some (.int .i64 a2_3) := (blk_cell BK306.out 3).trans rfl; have hfz139_0 := blk_frozen BK306.out 0; have hfz139_1 := blk_frozen BK306.out 1; have hfz139_2 := blk_frozen BK306.out 2; have hfz139_3 := blk_frozen BK306.out 3) | ((with_reducible refine gate_callee (f := 21) rfl ?_); refine goesL_ (some 416) rfl rfl Tryd.func21 (by kernel_rfl) rfl #[.agg #[.int .i64 a2_0, .int .i64 a2_1, .int .i64 a2_2, .int .i64 a2_3]] rfl (by (try simp only [List.map_toArray, List.map_cons, List.map_nil]); first | done | rfl | (simp only [List.length_drop, List.length_take]; rfl)) ?_; (with_reducible refine (spec_DistanceOf.calls kj53 a2_0 a2_1 a2_2 a2_3 t388 t389 t390 t391 t392 _ A118.out).mono ?_); rintro e w140 ⟨rfl, hb⟩; refine ⟨_, rfl, ?_⟩; have n0_ := Aside0.mk (blk_below (g := gb305) (o := .cells #[.int .i64 a0_0, .int .i64 a0_1, .int .i64 a0_2, .int .i64 a0_3] 23 (0, 0)) bk_ hb); have n1_ := Aside0.mk (blk_below (g := gb306) (o := .cells #[.int .i64 a2_0, .int .i64 a2_1, .int .i64 a2_2, .int .i64 a2_3] 23 (0, 0)) bk_ hb); have n2_ := Aside0.mk (below_step bw_ hb); clear BK305; clear BK306; clear HB; have BK305 := n0_; have BK306 := n1_; have HB := n2_; clear n0_ n1_ n2_; (try clear hb); (try clear hb2); (try clear hk); (try clear hi); have hcz141_0 : w140.cell? ⟨gb306, 0, none⟩ = some (.int .i64 a2_0) := (blk_cell BK306.out 0).trans rfl; have hcz141_1 : w140.cell? ⟨gb306, 1, none⟩ = some (.int .i64 a2_1) := (blk_cell BK306.out 1).trans rfl; have hcz141_2 : w140.cell? ⟨gb306, 2, none⟩ = some (.int .i64 a2_2) := (blk_cell BK306.out 2).trans rfl; have hcz141_3 : w140.cell? ⟨gb306, 3, none⟩ = some (.int .i64 a2_3) := (blk_cell BK306.out 3).trans rfl; have hfz141_0 := blk_frozen BK306.out 0; have hfz141_1 := blk_frozen BK306.out 1; have hfz141_2 := blk_frozen BK306.out 2; have hfz141_3 := blk_frozen BK306.out 3) | ((with_reducible refine gate_callee (f := 22) rfl ?_); refine goesL_ (some 424) rfl rfl Tryd.func22 (by kernel_rfl) rfl #[.agg #[.int .i64 a2_0, .int .i64 a2_1, .int .i64 a2_2, .int .i64 a2_3]] rfl (by (try simp only [List.map_toArray, List.map_cons, List.map_nil]); first | done | rfl | (simp only [List.length_drop, List.length_take]; rfl)) ?_; (with_reducible refine (impl_TurnChase.calls a2_0 a2_1 a2_2 a2_3 t393 t394 t395 t396 t397 _ A119.out).mono ?_); rintro e w142 ⟨rfl, hb⟩; refine ⟨_, rfl, ?_⟩; have n0_ := Aside0.mk (blk_below (g := gb305) (o := .cells #[.int .i64 a0_0, .int .i64 a0_1, .int .i64 a0_2, .int .i64 a0_3] 23 (0, 0)) bk_ hb); have n1_ := Aside0.mk (blk_below (g := gb306) (o := .cells #[.int .i64 a2_0, .int .i64 a2_1, .int .i64 a2_2, .int .i64 a2_3] 23 (0, 0)) bk_ hb); have n2_ := Aside0.mk (below_step bw_ hb); clear BK305; clear BK306; clear HB; have BK305 := n0_; have BK306 := n1_; have HB := n2_; clear n0_ n1_ n2_; (try clear hb); (try clear hb2); (try clear hk); (try clear hi)) | ((with_reducible refine gate_dst (N := 62) rfl ?_); refine box_event ?hg (N := 62) ?hd (cs := #[.int .i64 0, .int .i64 0, .int .i64 0, .int .i64 0]) (t := 23) ?hr ?_; (case hd => rfl); (case hg => rfl); (case hr => first | (go_simp; done) | (go_simp; rfl)); intro gb398 hg w143 hbox hb; have n0_ := Aside0.mk (blk_below (g := gb305) (o := .cells #[.int .i64 a0_0, .int .i64 a0_1, .int .i64 a0_2, .int .i64 a0_3] 23 (0, 0)) bk_ hb); have n1_ := Aside0.mk (blk_below (g := gb306) (o := .cells #[.int .i64 a2_0, .int .i64 a2_1, .int .i64 a2_2, .int .i64 a2_3] 23 (0, 0)) bk_ hb); have n2_ := Aside0.mk (below_step bw_ hb); have n3_ := Aside0.mk (hbox); have n4_ := Aside0.mk ((by rw [hg]; exact (below_size bw_) : w.heap.size ≤ gb398)); have n5_ := Aside0.mk ((by rw [hg]; exact (below_size bw_) : w.heap.size ≤ gb398)); have n6_ := Aside0.mk ((by rw [hg]; exact Nat.ne_of_lt (blk_lt (g := gb305) (o := .cells #[.int .i64 a0_0, .int .i64 a0_1, .int .i64 a0_2, .int .i64 a0_3] 23 (0, 0)) bk_) : gb305 ≠ gb398)); have n7_ := Aside0.mk ((by rw [hg]; exact Nat.ne_of_gt (blk_lt (g := gb305) (o := .cells #[.int .i64 a0_0, .int .i64 a0_1, .int .i64 a0_2, .int .i64 a0_3] 23 (0, 0)) bk_) : gb398 ≠ gb305)); have n8_ := Aside0.mk ((by rw [hg]; exact Nat.ne_of_lt (blk_lt (g := gb306) (o := .cells #[.int .i64 a2_0, .int .i64 a2_1, .int .i64 a2_2, .int .i64 a2_3] 23 (0, 0)) bk_) : gb306 ≠ gb398)); have n9_ := Aside0.mk ((by rw [hg]; exact Nat.ne_of_gt (blk_lt (g := gb306) (o := .cells #[.int .i64 a2_0, .int .i64 a2_1, .int .i64 a2_2, .int .i64 a2_3] 23 (0, 0)) bk_) : gb398 ≠ gb306)); clear BK305; clear BK306; clear HB; have BK305 := n0_; have BK306 := n1_; have HB := n2_; have BK398 := n3_; have GW398 := n4_; have GE398 := n5_; have NB305_398 := n6_; have NB398_305 := n7_; have NB306_398 := n8_; have NB398_306 := n9_; clear n0_ n1_ n2_ n3_ n4_ n5_ n6_ n7_ n8_ n9_; clear hb hbox hg; have hnb144 := NB398_305.out; have hnc144 := NB305_398.out; have hnb145 := NB398_306.out; have hnc145 := NB306_398.out; have hcz146_0 : w143.cell? ⟨gb398, 0, none⟩ = some (.int .i64 0) := (blk_cell BK398.out 0).trans rfl; have hcz146_1 : w143.cell? ⟨gb398, 1, none⟩ = some (.int .i64 0) := (blk_cell BK398.out 1).trans rfl; have hcz146_2 : w143.cell? ⟨gb398, 2, none⟩ = some (.int .i64 0) := (blk_cell BK398.out 2).trans rfl; have hcz146_3 : w143.cell? ⟨gb398, 3, none⟩ = some (.int .i64 0) := (blk_cell BK398.out 3).trans rfl; have hfz146_0 := blk_frozen BK398.out 0; have hfz146_1 := blk_frozen BK398.out 1; have hfz146_2 := blk_frozen BK398.out 2; have hfz146_3 := blk_frozen BK398.out 3; have hcz147_0 : w143.cell? ⟨gb306, 0, none⟩ = some (.int .i64 a2_0) := (blk_cell BK306.out 0).trans rfl; have hcz147_1 : w143.cell? ⟨gb306, 1, none⟩ = some (.int .i64 a2_1) := (blk_cell BK306.out 1).trans rfl; have hcz147_2 : w143.cell? ⟨gb306, 2, none⟩ = some (.int .i64 a2_2) := (blk_cell BK306.out 2).trans rfl; have hcz147_3 : w143.cell? ⟨gb306, 3, none⟩ = some (.int .i64 a2_3) := (blk_cell BK306.out 3).trans rfl; have hfz147_0 := blk_frozen BK306.out 0; have hfz147_1 := blk_frozen BK306.out 1; have hfz147_2 := blk_frozen BK306.out 2; have hfz147_3 := blk_frozen BK306.out 3) | ((with_reducible refine gate_callee (f := 23) rfl ?_); refine goesL_ (some 429) rfl rfl Tryd.func23 (by kernel_rfl) rfl #[.agg #[.int .i64 a2_0, .int .i64 a2_1, .int .i64 a2_2, .int .i64 a2_3]] rfl (by (try simp only [List.map_toArray, List.map_cons, List.map_nil]); first | done | rfl | (simp only [List.length_drop, List.length_take]; rfl)) ?_; (with_reducible refine (spec_TurnChase.calls a2_0 a2_1 a2_2 a2_3 t399 t400 t401 t402 t403 _ A120.out).mono ?_); rintro e w148 ⟨rfl, hb⟩; refine ⟨_, rfl, ?_⟩; have n0_ := Aside0.mk (blk_below (g := gb305) (o := .cells #[.int .i64 a0_0, .int .i64 a0_1, .int .i64 a0_2, .int .i64 a0_3] 23 (0, 0)) (by (with_reducible repeat (first | refine blk_drewN ?_ _ | refine blk_drew ?_ | refine blk_alloc ?_ _)); refine blk_far ?_ NB305_398.out _; (with_reducible repeat (first | refine blk_drewN ?_ _ | refine blk_drew ?_ | refine blk_alloc ?_ _)); refine blk_far ?_ NB305_398.out _; (with_reducible repeat (first | refine blk_drewN ?_ _ | refine blk_drew ?_ | refine blk_alloc ?_ _)); refine blk_far ?_ NB305_398.out _; (with_reducible repeat (first | refine blk_drewN ?_ _ | refine blk_drew ?_ | refine blk_alloc ?_ _)); refine blk_far ?_ NB305_398.out _; (with_reducible repeat (first | refine blk_drewN ?_ _ | refine blk_drew ?_ | refine blk_alloc ?_ _)); exact BK305.out) hb); have n1_ := Aside0.mk (blk_below (g := gb306) (o := .cells #[.int .i64 a2_0, .int .i64 a2_1, .int .i64 a2_2, .int .i64 a2_3] 23 (0, 0)) (by (with_reducible repeat (first | refine blk_drewN ?_ _ | refine blk_drew ?_ | refine blk_alloc ?_ _)); refine blk_far ?_ NB306_398.out _; (with_reducible repeat (first | refine blk_drewN ?_ _ | refine blk_drew ?_ | refine blk_alloc ?_ _)); refine blk_far ?_ NB306_398.out _; (with_reducible repeat (first | refine blk_drewN ?_ _ | refine blk_drew ?_ | refine blk_alloc ?_ _)); refine blk_far ?_ NB306_398.out _; (with_reducible repeat (first | refine blk_drewN ?_ _ | refine blk_drew ?_ | refine blk_alloc ?_ _)); refine blk_far ?_ NB306_398.out _; (with_reducible repeat (first | refine blk_drewN ?_ _ | refine blk_drew ?_ | refine blk_alloc ?_ _)); exact BK306.out) hb); have n2_ := Aside0.mk (blk_below (g := gb398) (o := .cells #[.int .i64 t393, .int .i64 t394, .int .i64 t395, .int .i64 t396] 23 (0, 0)) (by (with_reducible repeat (first | refine blk_drewN ?_ _ | refine blk_drew ?_ | refine blk_alloc ?_ _)); refine blk_put (cs := #[.int .i64 t393, .int .i64 t394, .int .i64 t395, .int .i64 0]) ?_ 3 _ rfl; (with_reducible repeat (first | refine blk_drewN ?_ _ | refine blk_drew ?_ | refine blk_alloc ?_ _)); refine blk_put (cs := #[.int .i64 t393, .int .i64 t394, .int .i64 0, .int .i64 0]) ?_ 2 _ rfl; (with_reducible repeat (first | refine blk_drewN ?_ _ | refine blk_drew ?_ | refine blk_alloc ?_ _)); refine blk_put (cs := #[.int .i64 t393, .int .i64 0, .int .i64 0, .int .i64 0]) ?_ 1 _ rfl; (with_reducible repeat (first | refine blk_drewN ?_ _ | refine blk_drew ?_ | refine blk_alloc ?_ _)); refine blk_put (cs := #[.int .i64 0, .int .i64 0, .int .i64 0, .int .i64 0]) ?_ 0 _ rfl; (with_reducible repeat (first | refine blk_drewN ?_ _ | refine blk_drew ?_ | refine blk_alloc ?_ _)); exact BK398.out) hb); have n3_ := Aside0.mk (below_step bw_ hb); clear BK305; clear BK306; clear BK398; clear HB; have BK305 := n0_; have BK306 := n1_; have BK398 := n2_; have HB := n3_; clear n0_ n1_ n2_ n3_; (try clear hb); (try clear hb2); (try clear hk); (try clear hi)) | ((with_reducible refine gate_dst (N := 64) rfl ?_); refine box_event ?hg (N := 64) ?hd (cs := #[.int .i64 0, .int .i64 0, .int .i64 0, .int .i64 0]) (t := 23) ?hr ?_; (case hd => rfl); (case hg => rfl); (case hr => first | (go_simp; done) | (go_simp; rfl)); intro gb404 hg w149 hbox hb; have n0_ := Aside0.mk (blk_below (g := gb305) (o := .cells #[.int .i64 a0_0, .int .i64 a0_1, .int .i64 a0_2, .int .i64 a0_3] 23 (0, 0)) bk_ hb); have n1_ := Aside0.mk (blk_below (g := gb306) (o := .cells #[.int .i64 a2_0, .int .i64 a2_1, .int .i64 a2_2, .int .i64 a2_3] 23 (0, 0)) bk_ hb); have n2_ := Aside0.mk (blk_below (g := gb398) (o := .cells #[.int .i64 t393, .int .i64 t394, .int .i64 t395, .int .i64 t396] 23 (0, 0)) bk_ hb); have n3_ := Aside0.mk (below_step bw_ hb); have n4_ := Aside0.mk (hbox); have n5_ := Aside0.mk ((by rw [hg]; exact (below_size bw_) : w.heap.size ≤ gb404)); have n6_ := Aside0.mk ((by rw [hg]; exact (below_size bw_) : w.heap.size ≤ gb404)); have n7_ := Aside0.mk ((by rw [hg]; exact Nat.ne_of_lt (blk_lt (g := gb305) (o := .cells #[.int .i64 a0_0, .int .i64 a0_1, .int .i64 a0_2, .int .i64 a0_3] 23 (0, 0)) bk_) : gb305 ≠ gb404)); have n8_ := Aside0.mk ((by rw [hg]; exact Nat.ne_of_gt (blk_lt (g := gb305) (o := .cells #[.int .i64 a0_0, .int .i64 a0_1, .int .i64 a0_2, .int .i64 a0_3] 23 (0, 0)) bk_) : gb404 ≠ gb305)); have n9_ := Aside0.mk ((by rw [hg]; exact Nat.ne_of_lt (blk_lt (g := gb306) (o := .cells #[.int .i64 a2_0, .int .i64 a2_1, .int .i64 a2_2, .int .i64 a2_3] 23 (0, 0)) bk_) : gb306 ≠ gb404)); have n10_ := Aside0.mk ((by rw [hg]; exact Nat.ne_of_gt (blk_lt (g := gb306) (o := .cells #[.int .i64 a2_0, .int .i64 a2_1, .int .i64 a2_2, .int .i64 a2_3] 23 (0, 0)) bk_) : gb404 ≠ gb306)); have n11_ := Aside0.mk ((by rw [hg]; exact Nat.ne_of_lt (blk_lt (g := gb398) (o := .cells #[.int .i64 t393, .int .i64 t394, .int .i64 t395, .int .i64 t396] 23 (0, 0)) bk_) : gb398 ≠ gb404)); have n12_ := Aside0.mk ((by rw [hg]; exact Nat.ne_of_gt (blk_lt (g := gb398) (o := .cells #[.int .i64 t393, .int .i64 t394, .int .i64 t395, .int .i64 t396] 23 (0, 0)) bk_) : gb404 ≠ gb398)); clear BK305; clear BK306; clear BK398; clear HB; have BK305 := n0_; have BK306 := n1_; have BK398 := n2_; have HB := n3_; have BK404 := n4_; have GW404 := n5_; have GE404 := n6_; have NB305_404 := n7_; have NB404_305 := n8_; have NB306_404 := n9_; have NB404_306 := n10_; have NB398_404 := n11_; have NB404_398 := n12_; clear n0_ n1_ n2_ n3_ n4_ n5_ n6_ n7_ n8_ n9_ n10_ n11_ n12_; clear hb hbox hg; have hnb150 := NB404_305.out; have hnc150 := NB305_404.out; have hnb151 := NB404_306.out; have hnc151 := NB306_404.out; have hnb152 := NB404_398.out; have hnc152 := NB398_404.out; have hcz153_0 : w149.cell? ⟨gb404, 0, none⟩ = some (.int .i64 0) := (blk_cell BK404.out 0).trans rfl; have hcz153_1 : w149.cell? ⟨gb404, 1, none⟩ = some (.int .i64 0) := (blk_cell BK404.out 1).trans rfl; have hcz153_2 : w149.cell? ⟨gb404, 2, none⟩ = some (.int .i64 0) := (blk_cell BK404.out 2).trans rfl; have hcz153_3 : w149.cell? ⟨gb404, 3, none⟩ = some (.int .i64 0) := (blk_cell BK404.out 3).trans rfl; have hfz153_0 := blk_frozen BK404.out 0; have hfz153_1 := blk_frozen BK404.out 1; have hfz153_2 := blk_frozen BK404.out 2; have hfz153_3 := blk_frozen BK404.out 3; have hcz154_0 : w149.cell? ⟨gb306, 0, none⟩ = some (.int .i64 a2_0) := (blk_cell BK306.out 0).trans rfl; have hcz154_1 : w149.cell? ⟨gb306, 1, none⟩ = some (.int .i64 a2_1) := (blk_cell BK306.out 1).trans rfl; have hcz154_2 : w149.cell? ⟨gb306, 2, none⟩ = some (.int .i64 a2_2) := (blk_cell BK306.out 2).trans rfl; have hcz154_3 : w149.cell? ⟨gb306, 3, none⟩ = some (.int .i64 a2_3) := (blk_cell BK306.out 3).trans rfl; have hfz154_0 := blk_frozen BK306.out 0; have hfz154_1 := blk_frozen BK306.out 1; have hfz154_2 := blk_frozen BK306.out 2; have hfz154_3 := blk_frozen BK306.out 3) | ((with_reducible refine gate_callee (f := 24) rfl ?_); refine goesL_ (some 434) rfl rfl Tryd.func24 (by kernel_rfl) rfl #[.agg #[.int .i64 a2_0, .int .i64 a2_1, .int .i64 a2_2, .int .i64 a2_3]] rfl (by (try simp only [List.map_toArray, List.map_cons, List.map_nil]); first | done | rfl | (simp only [List.length_drop, List.length_take]; rfl)) ?_; (with_reducible refine (impl_ChaseText.calls kj53 a2_0 a2_1 a2_2 a2_3 t405 t406 _ A121.out).mono ?_); rintro e w155 ⟨rfl, hb⟩; refine ⟨_, rfl, ?_⟩; have n0_ := Aside0.mk (blk_below (g := gb305) (o := .cells #[.int .i64 a0_0, .int .i64 a0_1, .int .i64 a0_2, .int .i64 a0_3] 23 (0, 0)) (by (with_reducible repeat (first | refine blk_drewN ?_ _ | refine blk_drew ?_ | refine blk_alloc ?_ _)); refine blk_far ?_ NB305_404.out _; (with_reducible repeat (first | refine blk_drewN ?_ _ | refine blk_drew ?_ | refine blk_alloc ?_ _)); refine blk_far ?_ NB305_404.out _; (with_reducible repeat (first | refine blk_drewN ?_ _ | refine blk_drew ?_ | refine blk_alloc ?_ _)); refine blk_far ?_ NB305_404.out _; (with_reducible repeat (first | refine blk_drewN ?_ _ | refine blk_drew ?_ | refine blk_alloc ?_ _)); refine blk_far ?_ NB305_404.out _; (with_reducible repeat (first | refine blk_drewN ?_ _ | refine blk_drew ?_ | refine blk_alloc ?_ _)); exact BK305.out) hb); have n1_ := Aside0.mk (blk_below (g := gb306) (o := .cells #[.int .i64 a2_0, .int .i64 a2_1, .int .i64 a2_2, .int .i64 a2_3] 23 (0, 0)) (by (with_reducible repeat (first | refine blk_drewN ?_ _ | refine blk_drew ?_ | refine blk_alloc ?_ _)); refine blk_far ?_ NB306_404.out _; (with_reducible repeat (first | refine blk_drewN ?_ _ | refine blk_drew ?_ | refine blk_alloc ?_ _)); refine blk_far ?_ NB306_404.out _; (with_reducible repeat (first | refine blk_drewN ?_ _ | refine blk_drew ?_ | refine blk_alloc ?_ _)); refine blk_far ?_ NB306_404.out _; (with_reducible repeat (first | refine blk_drewN ?_ _ | refine blk_drew ?_ | refine blk_alloc ?_ _)); refine blk_far ?_ NB306_404.out _; (with_reducible repeat (first | refine blk_drewN ?_ _ | refine blk_drew ?_ | refine blk_alloc ?_ _)); exact BK306.out) hb); have n2_ := Aside0.mk (blk_below (g := gb398) (o := .cells #[.int .i64 t393, .int .i64 t394, .int .i64 t395, .int .i64 t396] 23 (0, 0)) (by (with_reducible repeat (first | refine blk_drewN ?_ _ | refine blk_drew ?_ | refine blk_alloc ?_ _)); refine blk_far ?_ NB398_404.out _; (with_reducible repeat (first | refine blk_drewN ?_ _ | refine blk_drew ?_ | refine blk_alloc ?_ _)); refine blk_far ?_ NB398_404.out _; (with_reducible repeat (first | refine blk_drewN ?_ _ | refine blk_drew ?_ | refine blk_alloc ?_ _)); refine blk_far ?_ NB398_404.out _; (with_reducible repeat (first | refine blk_drewN ?_ _ | refine blk_drew ?_ | refine blk_alloc ?_ _)); refine blk_far ?_ NB398_404.out _; (with_reducible repeat (first | refine blk_drewN ?_ _ | refine blk_drew ?_ | refine blk_alloc ?_ _)); exact BK398.out) hb); have n3_ := Aside0.mk (blk_below (g := gb404) (o := .cells #[.int .i64 t399, .int .i64 t400, .int .i64 t401, .int .i64 t402] 23 (0, 0)) (by (with_reducible repeat (first | refine blk_drewN ?_ _ | refine blk_drew ?_ | refine blk_alloc ?_ _)); refine blk_put (cs := #[.int .i64 t399, .int .i64 t400, .int .i64 t401, .int .i64 0]) ?_ 3 _ rfl; (with_reducible repeat (first | refine blk_drewN ?_ _ | refine blk_drew ?_ | refine blk_alloc ?_ _)); refine blk_put (cs := #[.int .i64 t399, .int .i64 t400, .int .i64 0, .int .i64 0]) ?_ 2 _ rfl; (with_reducible repeat (first | refine blk_drewN ?_ _ | refine blk_drew ?_ | refine blk_alloc ?_ _)); refine blk_put (cs := #[.int .i64 t399, .int .i64 0, .int .i64 0, .int .i64 0]) ?_ 1 _ rfl; (with_reducible repeat (first | refine blk_drewN ?_ _ | refine blk_drew ?_ | refine blk_alloc ?_ _)); refine blk_put (cs := #[.int .i64 0, .int .i64 0, .int .i64 0, .int .i64 0]) ?_ 0 _ rfl; (with_reducible repeat (first | refine blk_drewN ?_ _ | refine blk_drew ?_ | refine blk_alloc ?_ _)); exact BK404.out) hb); have n4_ := Aside0.mk (below_step bw_ hb); clear BK305; clear BK306; clear BK398; clear BK404; clear HB; have BK305 := n0_; have BK306 := n1_; have BK398 := n2_; have BK404 := n3_; have HB := n4_; clear n0_ n1_ n2_ n3_ n4_; (try clear hb); (try clear hb2); (try clear hk); (try clear hi); have hcz156_0 : w155.cell? ⟨gb306, 0, none⟩ = some (.int .i64 a2_0) := (blk_cell BK306.out 0).trans rfl; have hcz156_1 : w155.cell? ⟨gb306, 1, none⟩ = some (.int .i64 a2_1) := (blk_cell BK306.out 1).trans rfl; have hcz156_2 : w155.cell? ⟨gb306, 2, none⟩ = some (.int .i64 a2_2) := (blk_cell BK306.out 2).trans rfl; have hcz156_3 : w155.cell? ⟨gb306, 3, none⟩ = some (.int .i64 a2_3) := (blk_cell BK306.out 3).trans rfl; have hfz156_0 := blk_frozen BK306.out 0; have hfz156_1 := blk_frozen BK306.out 1; have hfz156_2 := blk_frozen BK306.out 2; have hfz156_3 := blk_frozen BK306.out 3) | ((with_reducible refine gate_callee (f := 25) rfl ?_); refine goesL_ (some 439) rfl rfl Tryd.func25 (by kernel_rfl) rfl #[.agg #[.int .i64 a2_0, .int .i64 a2_1, .int .i64 a2_2, .int .i64 a2_3]] rfl (by (try simp only [List.map_toArray, List.map_cons, List.map_nil]); first | done | rfl | (simp only [List.length_drop, List.length_take]; rfl)) ?_; (with_reducible refine (spec_ChaseText.calls kj53 a2_0 a2_1 a2_2 a2_3 t407 t408 _ A122.out).mono ?_); rintro e w157 ⟨rfl, hb⟩; refine ⟨_, rfl, ?_⟩; have n0_ := Aside0.mk (blk_below (g := gb305) (o := .cells #[.int .i64 a0_0, .int .i64 a0_1, .int .i64 a0_2, .int .i64 a0_3] 23 (0, 0)) bk_ hb); have n1_ := Aside0.mk (blk_below (g := gb306) (o := .cells #[.int .i64 a2_0, .int .i64 a2_1, .int .i64 a2_2, .int .i64 a2_3] 23 (0, 0)) bk_ hb); have n2_ := Aside0.mk (blk_below (g := gb398) (o := .cells #[.int .i64 t393, .int .i64 t394, .int .i64 t395, .int .i64 t396] 23 (0, 0)) bk_ hb); have n3_ := Aside0.mk (blk_below (g := gb404) (o := .cells #[.int .i64 t399, .int .i64 t400, .int .i64 t401, .int .i64 t402] 23 (0, 0)) bk_ hb); have n4_ := Aside0.mk (below_step bw_ hb); clear BK305; clear BK306; clear BK398; clear BK404; clear HB; have BK305 := n0_; have BK306 := n1_; have BK398 := n2_; have BK404 := n3_; have HB := n4_; clear n0_ n1_ n2_ n3_ n4_; (try clear hb); (try clear hb2); (try clear hk); (try clear hi)))
       (try simp only [Act.put, List.setIfInBounds_toArray, List.set_cons_zero, List.set_cons_succ])
       go_cut [570] from 442 to 570 (fun v570 wc => ∃ (kq : Nat) (x570_122 : Bool), v570 = .bool x570_122 ∧ Aside0 (laws_FnDogsTurnOfAll.j6 kq t361 t362 t363 t364 t365 t371 t372 t377 t378 t383 t384 t385 t386 t405 x570_122 a2_0 a2_1 a2_2 a2_3 t393 t394 t395 t396 = some r) ∧ Aside0 (kq ≤ kj53) ∧ Aside0 (wc.heap[gb305]? = some (.cells #[.int .i64 a0_0, .int .i64 a0_1, .int .i64 a0_2, .int .i64 a0_3] 23 (0, 0))) ∧ Aside0 (wc.heap[gb306]? = some (.cells #[.int .i64 a2_0, .int .i64 a2_1, .int .i64 a2_2, .int .i64 a2_3] 23 (0, 0))) ∧ Aside0 (wc.heap[gb398]? = some (.cells #[.int .i64 t393, .int .i64 t394, .int .i64 t395, .int .i64 t396] 23 (0, 0))) ∧ Aside0 (wc.heap[gb404]? = some (.cells #[.int .i64 t399, .int .i64 t400, .int .i64 t401, .int .i64 t402] 23 (0, 0))) ∧ Aside0 (Below w.heap.size w wc))
       case first =>
        rename_i z1_ z2_ z3_ z4_ z5_ z6_ z7_ z8_ z9_ z10_ z11_ z12_ z13_ z14_ z15_ z16_
        revert hL0 HRT hu23 t307 t310 A4 t311 t314 A5 t315 t316 t317 A6 t318 t319 t320 A7 t321 t322 t323 A8 t324 t325 t326 A9 z1_ gb305 w11 GW305 GE305 gb306 w12 GW306 GE306 NB305_306 NB306_305 hnb13 hnc13 hcz14_0 hcz14_1 hcz14_2 hcz14_3 hfz14_0 hfz14_1 hfz14_2 hfz14_3 w15 v308 hcz16_0 hcz16_1 hcz16_2 hcz16_3 hfz16_0 hfz16_1 hfz16_2 hfz16_3 w17 v312 hcz18_0 hcz18_1 hcz18_2 hcz18_3 hfz18_0 hfz18_1 hfz18_2 hfz18_3 w19 hcz20_0 hcz20_1 hcz20_2 hcz20_3 hfz20_0 hfz20_1 hfz20_2 hfz20_3 w21 hcz22_0 hcz22_1 hcz22_2 hcz22_3 hfz22_0 hfz22_1 hfz22_2 hfz22_3 w23 hcz24_0 hcz24_1 hcz24_2 hcz24_3 hfz24_0 hfz24_1 hfz24_2 hfz24_3 w25 HO309 HO313 z2_ z3_ z4_ z5_ u120 u121 u122 u123 u124 u125 u126 u127 u128 u129 u130 u131 u132 u133 u134 u135 u136 u137 u138 u139 u140 u141 u142 u143 u144 u145 u146 u147 u148 u149 u150 u151 u152 u153 u154 u155 u156 u157 u158 u159 u160 u161 u162 u163 u164 u165 u166 u167 u168 u169 u170 u171 u172 u173 u174 u175 u176 u177 u178 u179 u180 u181 u182 HO_7 z6_ z7_ z8_ kj9 HJ9 wc u6 u23 u24 u25 u26 u27 u28 u29 u185 u186 u187 u188 u189 u190 u191 u192 u193 u194 u195 u196 u197 u198 u199 u200 u201 u202 u203 u204 u205 u206 u207 u208 u209 u210 u211 u212 u213 u214 u215 u216 u217 u218 u219 u220 u221 u222 u223 u224 u225 u226 u227 u228 u229 u230 u231 u232 u233 u234 u235 u236 u237 u238 u239 u240 u241 u242 u243 u244 u245 u246 u247 u248 u249 u250 u251 u252 u253 u254 u255 u256 u257 u258 u259 u260 u261 u262 u263 u264 u265 u266 u267 u268 u269 u270 u271 u272 u273 u274 u275 u276 u277 u278 u279 u280 u281 u282 u283 u284 u285 u286 u287 u288 u289 u290 u291 u292 u293 u294 u295 u296 u297 u298 u299 u300 u301 u302 u303 u304 u305 u306 u307 u308 u309 u310 u311 u312 u313 u314 u315 u316 u317 u318 u319 u320 u321 u322 u323 u324 u325 u326 u327 u328 u329 u330 u331 u332 u333 u334 u335 u336 u337 u338 u339 u340 u341 u342 u343 u344 u345 u346 u347 u348 u349 u350 u351 u352 u353 u354 u355 u356 u357 u358 u359 u360 u361 u362 u363 u364 u365 kj53 HJ53 t361 t362 t363 t364 t365 A111 t366 t367 t368 t369 t370 A112 t371 t372 t373 A113 t374 t375 t376 A114 t377 t378 t379 A115 t380 t381 t382 A116 t383 t384 t385 t386 t387 A117 t388 t389 t390 t391 t392 A118 t393 t394 t395 t396 t397 A119 t399 t400 t401 t402 t403 A120 t405 t406 A121 t407 t408 A122 HC123 hnb124 hnc124 hcz125_0 hcz125_1 hcz125_2 hcz125_3 hfz125_0 hfz125_1 hfz125_2 hfz125_3 w126 hcz127_0 hcz127_1 hcz127_2 hcz127_3 hfz127_0 hfz127_1 hfz127_2 hfz127_3 w128 hcz129_0 hcz129_1 hcz129_2 hcz129_3 hfz129_0 hfz129_1 hfz129_2 hfz129_3 w130 hcz131_0 hcz131_1 hcz131_2 hcz131_3 hfz131_0 hfz131_1 hfz131_2 hfz131_3 w132 hcz133_0 hcz133_1 hcz133_2 hcz133_3 hfz133_0 hfz133_1 hfz133_2 hfz133_3 w134 hcz135_0 hcz135_1 hcz135_2 hcz135_3 hfz135_0 hfz135_1 hfz135_2 hfz135_3 w136 hcz137_0 hcz137_1 hcz137_2 hcz137_3 hfz137_0 hfz137_1 hfz137_2 hfz137_3 w138 hcz139_0 hcz139_1 hcz139_2 hcz139_3 hfz139_0 hfz139_1 hfz139_2 hfz139_3 w140 hcz141_0 hcz141_1 hcz141_2 hcz141_3 hfz141_0 hfz141_1 hfz141_2 hfz141_3 w142 gb398 w143 GW398 GE398 NB305_398 NB398_305 NB306_398 NB398_306 hnb144 hnc144 hnb145 hnc145 hcz146_0 hcz146_1 hcz146_2 hcz146_3 hfz146_0 hfz146_1 hfz146_2 hfz146_3 hcz147_0 hcz147_1 hcz147_2 hcz147_3 hfz147_0 hfz147_1 hfz147_2 hfz147_3 w148 gb404 w149 GW404 GE404 NB305_404 NB404_305 NB306_404 NB404_306 NB398_404 NB404_398 hnb150 hnc150 hnb151 hnc151 hnb152 hnc152 hcz153_0 hcz153_1 hcz153_2 hcz153_3 hfz153_0 hfz153_1 hfz153_2 hfz153_3 hcz154_0 hcz154_1 hcz154_2 hcz154_3 hfz154_0 hfz154_1 hfz154_2 hfz154_3 w155 hcz156_0 hcz156_1 hcz156_2 hcz156_3 hfz156_0 hfz156_1 hfz156_2 hfz156_3 w157 BK305 BK306 BK398 BK404 HB z9_ z10_ z11_ z12_ z13_ z14_ z15_ z16_
        exact hP6.out
       case rest =>
        rename_i z1_ z2_ z3_ z4_ z5_ z6_ z7_ z8_ z9_ z10_ z11_ z12_ z13_
        revert hL0 HRT hu23 t307 t310 A4 t311 t314 A5 t315 t316 t317 A6 t318 t319 t320 A7 t321 t322 t323 A8 t324 t325 t326 A9 z1_ gb305 w11 GW305 GE305 gb306 w12 GW306 GE306 NB305_306 NB306_305 hnb13 hnc13 hcz14_0 hcz14_1 hcz14_2 hcz14_3 hfz14_0 hfz14_1 hfz14_2 hfz14_3 w15 v308 hcz16_0 hcz16_1 hcz16_2 hcz16_3 hfz16_0 hfz16_1 hfz16_2 hfz16_3 w17 v312 hcz18_0 hcz18_1 hcz18_2 hcz18_3 hfz18_0 hfz18_1 hfz18_2 hfz18_3 w19 hcz20_0 hcz20_1 hcz20_2 hcz20_3 hfz20_0 hfz20_1 hfz20_2 hfz20_3 w21 hcz22_0 hcz22_1 hcz22_2 hcz22_3 hfz22_0 hfz22_1 hfz22_2 hfz22_3 w23 hcz24_0 hcz24_1 hcz24_2 hcz24_3 hfz24_0 hfz24_1 hfz24_2 hfz24_3 w25 HO309 HO313 z2_ z3_ z4_ z5_ u120 u121 u122 u123 u124 u125 u126 u127 u128 u129 u130 u131 u132 u133 u134 u135 u136 u137 u138 u139 u140 u141 u142 u143 u144 u145 u146 u147 u148 u149 u150 u151 u152 u153 u154 u155 u156 u157 u158 u159 u160 u161 u162 u163 u164 u165 u166 u167 u168 u169 u170 u171 u172 u173 u174 u175 u176 u177 u178 u179 u180 u181 u182 HO_7 z6_ z7_ z8_ kj9 HJ9 z9_ u6 u23 u24 u25 u26 u27 u28 u29 u185 u186 u187 u188 u189 u190 u191 u192 u193 u194 u195 u196 u197 u198 u199 u200 u201 u202 u203 u204 u205 u206 u207 u208 u209 u210 u211 u212 u213 u214 u215 u216 u217 u218 u219 u220 u221 u222 u223 u224 u225 u226 u227 u228 u229 u230 u231 u232 u233 u234 u235 u236 u237 u238 u239 u240 u241 u242 u243 u244 u245 u246 u247 u248 u249 u250 u251 u252 u253 u254 u255 u256 u257 u258 u259 u260 u261 u262 u263 u264 u265 u266 u267 u268 u269 u270 u271 u272 u273 u274 u275 u276 u277 u278 u279 u280 u281 u282 u283 u284 u285 u286 u287 u288 u289 u290 u291 u292 u293 u294 u295 u296 u297 u298 u299 u300 u301 u302 u303 u304 u305 u306 u307 u308 u309 u310 u311 u312 u313 u314 u315 u316 u317 u318 u319 u320 u321 u322 u323 u324 u325 u326 u327 u328 u329 u330 u331 u332 u333 u334 u335 u336 u337 u338 u339 u340 u341 u342 u343 u344 u345 u346 u347 u348 u349 u350 u351 u352 u353 u354 u355 u356 u357 u358 u359 u360 u361 u362 u363 u364 u365 kj53 HJ53 t361 t362 t363 t364 t365 A111 t366 t367 t368 t369 t370 A112 t371 t372 t373 A113 t374 t375 t376 A114 t377 t378 t379 A115 t380 t381 t382 A116 t383 t384 t385 t386 t387 A117 t388 t389 t390 t391 t392 A118 t393 t394 t395 t396 t397 A119 t399 t400 t401 t402 t403 A120 t405 t406 A121 t407 t408 A122 HC123 hnb124 hnc124 hcz125_0 hcz125_1 hcz125_2 hcz125_3 hfz125_0 hfz125_1 hfz125_2 hfz125_3 w126 hcz127_0 hcz127_1 hcz127_2 hcz127_3 hfz127_0 hfz127_1 hfz127_2 hfz127_3 w128 hcz129_0 hcz129_1 hcz129_2 hcz129_3 hfz129_0 hfz129_1 hfz129_2 hfz129_3 w130 hcz131_0 hcz131_1 hcz131_2 hcz131_3 hfz131_0 hfz131_1 hfz131_2 hfz131_3 w132 hcz133_0 hcz133_1 hcz133_2 hcz133_3 hfz133_0 hfz133_1 hfz133_2 hfz133_3 w134 hcz135_0 hcz135_1 hcz135_2 hcz135_3 hfz135_0 hfz135_1 hfz135_2 hfz135_3 w136 hcz137_0 hcz137_1 hcz137_2 hcz137_3 hfz137_0 hfz137_1 hfz137_2 hfz137_3 w138 hcz139_0 hcz139_1 hcz139_2 hcz139_3 hfz139_0 hfz139_1 hfz139_2 hfz139_3 w140 hcz141_0 hcz141_1 hcz141_2 hcz141_3 hfz141_0 hfz141_1 hfz141_2 hfz141_3 w142 gb398 w143 GW398 GE398 NB305_398 NB398_305 NB306_398 NB398_306 hnb144 hnc144 hnb145 hnc145 hcz146_0 hcz146_1 hcz146_2 hcz146_3 hfz146_0 hfz146_1 hfz146_2 hfz146_3 hcz147_0 hcz147_1 hcz147_2 hcz147_3 hfz147_0 hfz147_1 hfz147_2 hfz147_3 w148 gb404 w149 GW404 GE404 NB305_404 NB404_305 NB306_404 NB404_306 NB398_404 NB404_398 hnb150 hnc150 hnb151 hnc151 hnb152 hnc152 hcz153_0 hcz153_1 hcz153_2 hcz153_3 hfz153_0 hfz153_1 hfz153_2 hfz153_3 hcz154_0 hcz154_1 hcz154_2 hcz154_3 hfz154_0 hfz154_1 hfz154_2 hfz154_3 w155 hcz156_0 hcz156_1 hcz156_2 hcz156_3 hfz156_0 hfz156_1 hfz156_2 hfz156_3 w157 BK305 BK306 BK398 BK404 HB z10_ z11_ z12_ z13_ wc u442 u443 u444 u445 u446 u447 u448 u449 u450 u451 u452 u453 u454 u455 u456 u457 u458 u459 u460 u461 u462 u463 u464 u465 u466 u467 u468 u469 u470 u471 u472 u473 u474 u475 u476 u477 u478 u479 u480 u481 u482 u483 u484 u485 u486 u487 u488 u489 u490 u491 u492 u493 u494 u495 u496 u497 u498 u499 u500 u501 u502 u503 u504 u505 u506 u507 u508 u509 u510 u511 u512 u513 u514 u515 u516 u517 u518 u519 u520 u521 u522 u523 u524 u525 u526 u527 u528 u529 u530 u531 u532 u533 u534 u535 u536 u537 u538 u539 u540 u541 u542 u543 u544 u545 u546 u547 u548 u549 u550 u551 u552 u553 u554 u555 u556 u557 u558 u559 u560 u561 u562 u563 u564 u565 u566 u567 u568 u569 u570 hcut
        exact hP7.out
end Go.Proofs.YtajlcomankjcjaaDoor.PFnDogsTurnOfAll
