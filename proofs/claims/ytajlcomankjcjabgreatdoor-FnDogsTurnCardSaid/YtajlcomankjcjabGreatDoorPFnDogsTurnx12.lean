-- Laid by a program of this session's (wip/gen/printp.sh): the functions that the law reaches, each with its walk.
import Derived.Test.YtajlcomankjcjabGreatDoorPFnDogsTurnx0
import Derived.Test.YtajlcomankjcjabGreatDoorPFnDogsTurnx1
import Derived.Test.YtajlcomankjcjabGreatDoorPFnDogsTurnx2
import Derived.Test.YtajlcomankjcjabGreatDoorPFnDogsTurnx3
import Derived.Test.YtajlcomankjcjabGreatDoorPFnDogsTurnx5
import Derived.Test.YtajlcomankjcjabGreatDoorPFnDogsTurnx6
import Derived.Test.YtajlcomankjcjabGreatDoorPFnDogsTurnx7
import Derived.Test.YtajlcomankjcjabGreatDoorPFnDogsTurnx8
import Derived.Test.YtajlcomankjcjabGreatDoorPFnDogsTurnx9
import Derived.Test.YtajlcomankjcjabGreatDoorPFnDogsTurnx10
import Derived.Test.YtajlcomankjcjabGreatDoorPFnDogsTurnx11
namespace Go.Proofs.YtajlcomankjcjabGreatDoor.PFnDogsTurn
open Go.RowKit Go.Proofs.YtajlcomankjcjabGreatDoorW.PrintWords Go.Proofs.YtajlcomankjcjabGreatDoorW.PrintLast Go.Proofs.YtajlcomankjcjabGreatDoorW.PrintMore
attribute [local go_sem] max2_int min2_int max_two min_two max_three min_three max_four min_four   -- for this text's walks alone
set_option linter.unusedVariables false
set_option linter.unusedSimpArgs false

attribute [local go_sem high] eqA25
structure Held1 (P : Prop) : Prop where
  out : P
set_option maxHeartbeats 80000000 in
set_option maxRecDepth 100000 in
def laws_FnDogsTurn.part (k : Nat) (A0 : Option Addr) (c0 : Nat) (l0 : List Int) (A1 : Option Addr) (c1 : Nat) (l1 : List Int) (r : Bool) (w : World) : PSigma fun P1 : Prop => PSigma fun P2 : Prop => PSigma fun P3 : Prop => PSigma fun P4 : Prop => PSigma fun P5 : Prop => PSigma fun P6 : Prop => PSigma fun P7 : Prop => (Held1 P1 → Held1 P2 → Held1 P3 → Held1 P4 → Held1 P5 → Held1 P6 → Held1 P7 → (hr0 : Kd.C (Kd.int .u8) w A0 l0.length l0) → (hc0 : l0.length ≤ c0) → (hr1 : Kd.C (Kd.int .u8) w A1 l1.length l1) → (hc1 : l1.length ≤ c1) → (h : laws_FnDogsTurn.f k l0 l1 = some r) → (hrt : r = true) → (hL0 : LaidA w) → Calls Tryz.prog 3 #[.slice A0 l0.length c0, .slice A1 l1.length c1] w fun e w' => e = .returned (.bool r) ∧ Below w.heap.size w w') := by
 apply PSigma.mk
 apply PSigma.mk
 apply PSigma.mk
 apply PSigma.mk
 apply PSigma.mk
 apply PSigma.mk
 apply PSigma.mk
 focus as_aux_lemma =>
  intro hP1 hP2 hP3 hP4 hP5 hP6 hP7 hr0 hc0 hr1 hc1 h hrt hL0
  have HRT := Aside0.mk hrt
  clear hrt
  have hu25 := Tryz.underlying25
  have HR0 := Aside0.mk hr0
  have HC0 := Aside0.mk hc0
  clear hr0 hc0
  have HR1 := Aside0.mk hr1
  have HC1 := Aside0.mk hc1
  clear hr1 hc1
  have HB := Aside0.mk (Below.refl w.heap.size w)
  have H : ((laws_big.f l0 l1).bind fun t391 => (if t391 = true then (some true) else ((spec_DrawDogTurns.f l0).bind fun bt392 => ((impl_DogTurns.f k bt392.1 bt392.2.1 bt392.2.2.1 bt392.2.2.2.1 bt392.2.2.2.2).bind fun bt398 => ((spec_DogTurns.f k bt392.1 bt392.2.1 bt392.2.2.1 bt392.2.2.2.1 bt392.2.2.2.2).bind fun bt402 => ((impl_ApartAfterTurn.f k bt392.1 bt392.2.1 bt392.2.2.1 bt392.2.2.2.1 bt392.2.2.2.2).bind fun bt406 => ((spec_ApartAfterTurn.f k bt392.1 bt392.2.1 bt392.2.2.1 bt392.2.2.2.1 bt392.2.2.2.2).bind fun bt409 => ((impl_RunToRight.f k bt392.1 bt392.2.1 bt392.2.2.1 bt392.2.2.2.1 bt392.2.2.2.2).bind fun bt412 => ((spec_RunToRight.f k bt392.1 bt392.2.1 bt392.2.2.1 bt392.2.2.2.1 bt392.2.2.2.2).bind fun bt415 => (if (bt398.2 != bt402.2) = true then (laws_FnDogsTurn.j0 k l1 bt392.2.2.2.2 bt398.1 bt398.2 bt406.1 bt406.2.1 bt412.1 bt412.2.1 true bt392.1 bt392.2.1 bt392.2.2.1 bt392.2.2.2.1) else ((laws_yRows.f k bt398.1 bt402.1).bind fun t418 => (if t418 = true then (if (bt406.2.2 != bt409.2.2) = true then (laws_FnDogsTurn.j0 k l1 bt392.2.2.2.2 bt398.1 bt398.2 bt406.1 bt406.2.1 bt412.1 bt412.2.1 true bt392.1 bt392.2.1 bt392.2.2.1 bt392.2.2.2.1) else (if bt406.1 = bt409.1 then (if bt406.2.1 = bt409.2.1 then (if (bt412.2.2 != bt415.2.2) = true then (laws_FnDogsTurn.j0 k l1 bt392.2.2.2.2 bt398.1 bt398.2 bt406.1 bt406.2.1 bt412.1 bt412.2.1 true bt392.1 bt392.2.1 bt392.2.2.1 bt392.2.2.2.1) else (if bt412.1 = bt415.1 then (if bt412.2.1 = bt415.2.1 then (if (bt406.2.2 != bt398.2) = true then (laws_FnDogsTurn.j0 k l1 bt392.2.2.2.2 bt398.1 bt398.2 bt406.1 bt406.2.1 bt412.1 bt412.2.1 true bt392.1 bt392.2.1 bt392.2.2.1 bt392.2.2.2.1) else (if (bt412.2.2 != bt398.2) = true then (laws_FnDogsTurn.j0 k l1 bt392.2.2.2.2 bt398.1 bt398.2 bt406.1 bt406.2.1 bt412.1 bt412.2.1 true bt392.1 bt392.2.1 bt392.2.2.1 bt392.2.2.2.1) else ((impl_IsChase.f bt392.1 bt392.2.1 bt392.2.2.1 bt392.2.2.2.1).bind fun t419 => ((spec_IsChase.f bt392.1 bt392.2.1 bt392.2.2.1 bt392.2.2.2.1).bind fun t420 => (if (t419 != t420) = true then (laws_FnDogsTurn.j0 k l1 bt392.2.2.2.2 bt398.1 bt398.2 bt406.1 bt406.2.1 bt412.1 bt412.2.1 true bt392.1 bt392.2.1 bt392.2.2.1 bt392.2.2.2.1) else (if bt398.2 = true then ((impl_IsChase.f bt392.1 bt392.2.1 bt392.2.2.1 bt392.2.2.2.1).bind fun t421 => (laws_FnDogsTurn.j0 k l1 bt392.2.2.2.2 bt398.1 bt398.2 bt406.1 bt406.2.1 bt412.1 bt412.2.1 (!t421) bt392.1 bt392.2.1 bt392.2.2.1 bt392.2.2.2.1)) else (laws_FnDogsTurn.j0 k l1 bt392.2.2.2.2 bt398.1 bt398.2 bt406.1 bt406.2.1 bt412.1 bt412.2.1 false bt392.1 bt392.2.1 bt392.2.2.1 bt392.2.2.2.1))))))) else (laws_FnDogsTurn.j0 k l1 bt392.2.2.2.2 bt398.1 bt398.2 bt406.1 bt406.2.1 bt412.1 bt412.2.1 true bt392.1 bt392.2.1 bt392.2.2.1 bt392.2.2.2.1)) else (laws_FnDogsTurn.j0 k l1 bt392.2.2.2.2 bt398.1 bt398.2 bt406.1 bt406.2.1 bt412.1 bt412.2.1 true bt392.1 bt392.2.1 bt392.2.2.1 bt392.2.2.2.1))) else (laws_FnDogsTurn.j0 k l1 bt392.2.2.2.2 bt398.1 bt398.2 bt406.1 bt406.2.1 bt412.1 bt412.2.1 true bt392.1 bt392.2.1 bt392.2.2.1 bt392.2.2.2.1)) else (laws_FnDogsTurn.j0 k l1 bt392.2.2.2.2 bt398.1 bt398.2 bt406.1 bt406.2.1 bt412.1 bt412.2.1 true bt392.1 bt392.2.1 bt392.2.2.1 bt392.2.2.2.1))) else (laws_FnDogsTurn.j0 k l1 bt392.2.2.2.2 bt398.1 bt398.2 bt406.1 bt406.2.1 bt412.1 bt412.2.1 true bt392.1 bt392.2.1 bt392.2.2.1 bt392.2.2.2.1))))))))))))) = some r := h
  clear h
  replace H := Option.bind_eq_some_iff.mp H
  obtain ⟨t391, A30, H⟩ := H
  (try dsimp only at H)
  have A3 := Aside0.mk A30
  clear A30
  by_cases c4 : t391 = true
  ·
   subst c4
   rw [if_pos rfl] at H
   obtain rfl := Option.some.inj H
   go_enter Tryz.func3, Tryz.ntmps3
   go_wp2_with (first | ((with_reducible refine gate_callee (f := 4) rfl ?_); refine goesL_ (some 83) rfl rfl Tryz.func4 (by kernel_rfl) rfl #[.slice A0 l0.length c0, .slice A1 l1.length c1] rfl (by (try simp only [List.map_toArray, List.map_cons, List.map_nil]); first | done | rfl | (simp only [List.length_drop, List.length_take]; rfl)) ?_; (with_reducible refine (laws_big.calls _ _ l0 _ _ l1 true _ ?side1 ?side2 ?side3 ?side4 A3.out).mono ?_); (case side1 => repeat (first | exact HR0.out | (with_reducible refine Kd.C_alloc ?_ _) | (with_reducible refine Kd.C_drewN ?_ _) | (with_reducible refine Kd.C_drew ?_))); (case side2 => exact HC0.out); (case side3 => repeat (first | exact HR1.out | (with_reducible refine Kd.C_alloc ?_ _) | (with_reducible refine Kd.C_drewN ?_ _) | (with_reducible refine Kd.C_drew ?_))); (case side4 => exact HC1.out); rintro e w' ⟨rfl, ⟨nd, rfl⟩⟩; refine ⟨_, rfl, ?_⟩))
   go_ret
   exact ⟨by first | rfl | (simp [errW_none, errW_some] <;> rfl) | (simp [*, errW_none, errW_some] <;> rfl), by repeat (first | (with_reducible first | exact HB.out | apply below_alloc | apply pw_below_drewN | apply below_drew1) | exact HB.out)⟩
  ·
   replace c4 := Bool.eq_false_iff.mpr c4
   subst c4
   rw [if_neg (show ¬ (false = true) by decide)] at H
   replace H := Option.bind_eq_some_iff.mp H
   obtain ⟨⟨t392, t393, t394, t395, t396⟩, A50, H⟩ := H
   (try dsimp only at H)
   have A5 := Aside0.mk A50
   clear A50
   replace H := Option.bind_eq_some_iff.mp H
   obtain ⟨⟨t398, t401⟩, A60, H⟩ := H
   (try dsimp only at H)
   have A6 := Aside0.mk A60
   clear A60
   replace H := Option.bind_eq_some_iff.mp H
   obtain ⟨⟨t402, t405⟩, A70, H⟩ := H
   (try dsimp only at H)
   have A7 := Aside0.mk A70
   clear A70
   replace H := Option.bind_eq_some_iff.mp H
   obtain ⟨⟨t406, t407, t408⟩, A80, H⟩ := H
   (try dsimp only at H)
   have A8 := Aside0.mk A80
   clear A80
   replace H := Option.bind_eq_some_iff.mp H
   obtain ⟨⟨t409, t410, t411⟩, A90, H⟩ := H
   (try dsimp only at H)
   have A9 := Aside0.mk A90
   clear A90
   replace H := Option.bind_eq_some_iff.mp H
   obtain ⟨⟨t412, t413, t414⟩, A100, H⟩ := H
   (try dsimp only at H)
   have A10 := Aside0.mk A100
   clear A100
   replace H := Option.bind_eq_some_iff.mp H
   obtain ⟨⟨t415, t416, t417⟩, A110, H⟩ := H
   (try dsimp only at H)
   have A11 := Aside0.mk A110
   clear A110
   have HC12 := Aside0.mk H
   clear H
   go_enter Tryz.func3, Tryz.ntmps3
   go_upto_region 10 with (first | ((with_reducible refine gate_callee (f := 4) rfl ?_); refine goesL_ (some 83) rfl rfl Tryz.func4 (by kernel_rfl) rfl #[.slice A0 l0.length c0, .slice A1 l1.length c1] rfl (by (try simp only [List.map_toArray, List.map_cons, List.map_nil]); first | done | rfl | (simp only [List.length_drop, List.length_take]; rfl)) ?_; (with_reducible refine (laws_big.calls _ _ l0 _ _ l1 false _ ?side1 ?side2 ?side3 ?side4 A3.out).mono ?_); (case side1 => repeat (first | exact HR0.out | (with_reducible refine Kd.C_alloc ?_ _) | (with_reducible refine Kd.C_drewN ?_ _) | (with_reducible refine Kd.C_drew ?_))); (case side2 => exact HC0.out); (case side3 => repeat (first | exact HR1.out | (with_reducible refine Kd.C_alloc ?_ _) | (with_reducible refine Kd.C_drewN ?_ _) | (with_reducible refine Kd.C_drew ?_))); (case side4 => exact HC1.out); rintro e w' ⟨rfl, ⟨nd, rfl⟩⟩; refine ⟨_, rfl, ?_⟩) | ((with_reducible refine gate_callee (f := 5) rfl ?_); refine goesL_ (some 86) rfl rfl Tryz.func5 (by kernel_rfl) rfl #[.slice A0 l0.length c0] rfl (by (try simp only [List.map_toArray, List.map_cons, List.map_nil]); first | done | rfl | (simp only [List.length_drop, List.length_take]; rfl)) ?_; (with_reducible refine (spec_DrawDogTurns.calls _ _ l0 t392 t393 t394 t395 t396 _ ?side1 ?side2 A5.out).mono ?_); (case side1 => repeat (first | exact HR0.out | (with_reducible refine Kd.C_alloc ?_ _) | (with_reducible refine Kd.C_drewN ?_ _) | (with_reducible refine Kd.C_drew ?_))); (case side2 => exact HC0.out); rintro e w13 ⟨rfl, hb⟩; refine ⟨_, rfl, ?_⟩; have n0_ := Aside0.mk (below_step bw_ hb); clear HB; have HB := n0_; clear n0_; (try clear hb); (try clear hb2); (try clear hk); (try clear hi)) | ((with_reducible refine gate_dst (N := 5) rfl ?_); refine box_event ?hg (N := 5) ?hd (cs := #[.int .i64 0, .int .i64 0, .int .i64 0, .int .i64 0]) (t := 25) ?hr ?_; (case hd => rfl); (case hg => rfl); (case hr => first | (go_simp; done) | (go_simp; rfl)); intro gb397 hg w14 hbox hb; have n0_ := Aside0.mk (below_step bw_ hb); have n1_ := Aside0.mk (hbox); have n2_ := Aside0.mk ((by rw [hg]; exact (below_size bw_) : w.heap.size ≤ gb397)); have n3_ := Aside0.mk ((by rw [hg]; exact (below_size bw_) : w.heap.size ≤ gb397)); clear HB; have HB := n0_; have BK397 := n1_; have GW397 := n2_; have GE397 := n3_; clear n0_ n1_ n2_ n3_; clear hb hbox hg; have hcz15_0 : w14.cell? ⟨gb397, 0, none⟩ = some (.int .i64 0) := (blk_cell BK397.out 0).trans rfl; have hcz15_1 : w14.cell? ⟨gb397, 1, none⟩ = some (.int .i64 0) := (blk_cell BK397.out 1).trans rfl; have hcz15_2 : w14.cell? ⟨gb397, 2, none⟩ = some (.int .i64 0) := (blk_cell BK397.out 2).trans rfl; have hcz15_3 : w14.cell? ⟨gb397, 3, none⟩ = some (.int .i64 0) := (blk_cell BK397.out 3).trans rfl; have hfz15_0 := blk_frozen BK397.out 0; have hfz15_1 := blk_frozen BK397.out 1; have hfz15_2 := blk_frozen BK397.out 2; have hfz15_3 := blk_frozen BK397.out 3) | ((with_reducible refine gate_callee (f := 6) rfl ?_); refine goesL_ (some 92) rfl rfl Tryz.func6 (by kernel_rfl) rfl #[.agg #[.int .i64 t392, .int .i64 t393, .int .i64 t394, .int .i64 t395], .int .i64 t396] rfl (by (try simp only [List.map_toArray, List.map_cons, List.map_nil]); first | done | rfl | (simp only [List.length_drop, List.length_take]; rfl)) ?_; (with_reducible refine (impl_DogTurns.calls k t392 t393 t394 t395 t396 t398 t401 _ A6.out).mono ?_); rintro e w16 ⟨v399, rfl, ho0, hb⟩; refine ⟨_, rfl, ?_⟩; have n0_ := Aside0.mk (Kd.S_lower ho0 (below_size bw_)); have n1_ := Aside0.mk (blk_below (g := gb397) (o := .cells #[.int .i64 t392, .int .i64 t393, .int .i64 t394, .int .i64 t395] 25 (0, 0)) (by (with_reducible repeat (first | refine blk_drewN ?_ _ | refine blk_drew ?_ | refine blk_alloc ?_ _)); refine blk_put (cs := #[.int .i64 t392, .int .i64 t393, .int .i64 t394, .int .i64 0]) ?_ 3 _ rfl; (with_reducible repeat (first | refine blk_drewN ?_ _ | refine blk_drew ?_ | refine blk_alloc ?_ _)); refine blk_put (cs := #[.int .i64 t392, .int .i64 t393, .int .i64 0, .int .i64 0]) ?_ 2 _ rfl; (with_reducible repeat (first | refine blk_drewN ?_ _ | refine blk_drew ?_ | refine blk_alloc ?_ _)); refine blk_put (cs := #[.int .i64 t392, .int .i64 0, .int .i64 0, .int .i64 0]) ?_ 1 _ rfl; (with_reducible repeat (first | refine blk_drewN ?_ _ | refine blk_drew ?_ | refine blk_alloc ?_ _)); refine blk_put (cs := #[.int .i64 0, .int .i64 0, .int .i64 0, .int .i64 0]) ?_ 0 _ rfl; (with_reducible repeat (first | refine blk_drewN ?_ _ | refine blk_drew ?_ | refine blk_alloc ?_ _)); exact BK397.out) hb); have n2_ := Aside0.mk (below_step bw_ hb); clear BK397; clear HB; have HO400 := n0_; have BK397 := n1_; have HB := n2_; clear n0_ n1_ n2_; (try clear hb); (try clear hb2); (try clear hk); (try clear hi); (try clear ho0); have hcz17_0 : w16.cell? ⟨gb397, 0, none⟩ = some (.int .i64 t392) := (blk_cell BK397.out 0).trans rfl; have hcz17_1 : w16.cell? ⟨gb397, 1, none⟩ = some (.int .i64 t393) := (blk_cell BK397.out 1).trans rfl; have hcz17_2 : w16.cell? ⟨gb397, 2, none⟩ = some (.int .i64 t394) := (blk_cell BK397.out 2).trans rfl; have hcz17_3 : w16.cell? ⟨gb397, 3, none⟩ = some (.int .i64 t395) := (blk_cell BK397.out 3).trans rfl; have hfz17_0 := blk_frozen BK397.out 0; have hfz17_1 := blk_frozen BK397.out 1; have hfz17_2 := blk_frozen BK397.out 2; have hfz17_3 := blk_frozen BK397.out 3) | ((with_reducible refine gate_callee (f := 7) rfl ?_); refine goesL_ (some 98) rfl rfl Tryz.func7 (by kernel_rfl) rfl #[.agg #[.int .i64 t392, .int .i64 t393, .int .i64 t394, .int .i64 t395], .int .i64 t396] rfl (by (try simp only [List.map_toArray, List.map_cons, List.map_nil]); first | done | rfl | (simp only [List.length_drop, List.length_take]; rfl)) ?_; (with_reducible refine (spec_DogTurns.calls k t392 t393 t394 t395 t396 t402 t405 _ A7.out).mono ?_); rintro e w18 ⟨v403, rfl, ho0, hb⟩; refine ⟨_, rfl, ?_⟩; have n0_ := Aside0.mk (Kd.S_elder' (by (with_reducible repeat (first | apply Kd.S_alloc | apply Kd.S_drewN | apply Kd.S_drew)); exact HO400.out) (Kd.S_base ho0) hb); have n1_ := Aside0.mk (Kd.S_lower (Kd.S_new' ho0 (Kd.S_lt (by (with_reducible repeat (first | apply Kd.S_alloc | apply Kd.S_drewN | apply Kd.S_drew)); exact HO400.out))) (below_size bw_)); have n2_ := Aside0.mk (blk_below (g := gb397) (o := .cells #[.int .i64 t392, .int .i64 t393, .int .i64 t394, .int .i64 t395] 25 (0, 0)) bk_ hb); have n3_ := Aside0.mk (below_step bw_ hb); clear HO400; clear BK397; clear HB; have HO400 := n0_; have HO404 := n1_; have BK397 := n2_; have HB := n3_; clear n0_ n1_ n2_ n3_; (try clear hb); (try clear hb2); (try clear hk); (try clear hi); (try clear ho0); have hcz19_0 : w18.cell? ⟨gb397, 0, none⟩ = some (.int .i64 t392) := (blk_cell BK397.out 0).trans rfl; have hcz19_1 : w18.cell? ⟨gb397, 1, none⟩ = some (.int .i64 t393) := (blk_cell BK397.out 1).trans rfl; have hcz19_2 : w18.cell? ⟨gb397, 2, none⟩ = some (.int .i64 t394) := (blk_cell BK397.out 2).trans rfl; have hcz19_3 : w18.cell? ⟨gb397, 3, none⟩ = some (.int .i64 t395) := (blk_cell BK397.out 3).trans rfl; have hfz19_0 := blk_frozen BK397.out 0; have hfz19_1 := blk_frozen BK397.out 1; have hfz19_2 := blk_frozen BK397.out 2; have hfz19_3 := blk_frozen BK397.out 3) | ((with_reducible refine gate_callee (f := 8) rfl ?_); refine goesL_ (some 104) rfl rfl Tryz.func8 (by kernel_rfl) rfl #[.agg #[.int .i64 t392, .int .i64 t393, .int .i64 t394, .int .i64 t395], .int .i64 t396] rfl (by (try simp only [List.map_toArray, List.map_cons, List.map_nil]); first | done | rfl | (simp only [List.length_drop, List.length_take]; rfl)) ?_; (with_reducible refine (impl_ApartAfterTurn.calls k t392 t393 t394 t395 t396 t406 t407 t408 _ A8.out).mono ?_); rintro e w20 ⟨rfl, hb⟩; refine ⟨_, rfl, ?_⟩; have n0_ := Aside0.mk (Kd.S_below (by (with_reducible repeat (first | apply Kd.S_alloc | apply Kd.S_drewN | apply Kd.S_drew)); exact HO400.out) hb); have n1_ := Aside0.mk (Kd.S_below (by (with_reducible repeat (first | apply Kd.S_alloc | apply Kd.S_drewN | apply Kd.S_drew)); exact HO404.out) hb); have n2_ := Aside0.mk (blk_below (g := gb397) (o := .cells #[.int .i64 t392, .int .i64 t393, .int .i64 t394, .int .i64 t395] 25 (0, 0)) bk_ hb); have n3_ := Aside0.mk (below_step bw_ hb); clear HO400; clear HO404; clear BK397; clear HB; have HO400 := n0_; have HO404 := n1_; have BK397 := n2_; have HB := n3_; clear n0_ n1_ n2_ n3_; (try clear hb); (try clear hb2); (try clear hk); (try clear hi); have hcz21_0 : w20.cell? ⟨gb397, 0, none⟩ = some (.int .i64 t392) := (blk_cell BK397.out 0).trans rfl; have hcz21_1 : w20.cell? ⟨gb397, 1, none⟩ = some (.int .i64 t393) := (blk_cell BK397.out 1).trans rfl; have hcz21_2 : w20.cell? ⟨gb397, 2, none⟩ = some (.int .i64 t394) := (blk_cell BK397.out 2).trans rfl; have hcz21_3 : w20.cell? ⟨gb397, 3, none⟩ = some (.int .i64 t395) := (blk_cell BK397.out 3).trans rfl; have hfz21_0 := blk_frozen BK397.out 0; have hfz21_1 := blk_frozen BK397.out 1; have hfz21_2 := blk_frozen BK397.out 2; have hfz21_3 := blk_frozen BK397.out 3) | ((with_reducible refine gate_callee (f := 9) rfl ?_); refine goesL_ (some 111) rfl rfl Tryz.func9 (by kernel_rfl) rfl #[.agg #[.int .i64 t392, .int .i64 t393, .int .i64 t394, .int .i64 t395], .int .i64 t396] rfl (by (try simp only [List.map_toArray, List.map_cons, List.map_nil]); first | done | rfl | (simp only [List.length_drop, List.length_take]; rfl)) ?_; (with_reducible refine (spec_ApartAfterTurn.calls k t392 t393 t394 t395 t396 t409 t410 t411 _ A9.out).mono ?_); rintro e w22 ⟨rfl, hb⟩; refine ⟨_, rfl, ?_⟩; have n0_ := Aside0.mk (Kd.S_below (by (with_reducible repeat (first | apply Kd.S_alloc | apply Kd.S_drewN | apply Kd.S_drew)); exact HO400.out) hb); have n1_ := Aside0.mk (Kd.S_below (by (with_reducible repeat (first | apply Kd.S_alloc | apply Kd.S_drewN | apply Kd.S_drew)); exact HO404.out) hb); have n2_ := Aside0.mk (blk_below (g := gb397) (o := .cells #[.int .i64 t392, .int .i64 t393, .int .i64 t394, .int .i64 t395] 25 (0, 0)) bk_ hb); have n3_ := Aside0.mk (below_step bw_ hb); clear HO400; clear HO404; clear BK397; clear HB; have HO400 := n0_; have HO404 := n1_; have BK397 := n2_; have HB := n3_; clear n0_ n1_ n2_ n3_; (try clear hb); (try clear hb2); (try clear hk); (try clear hi); have hcz23_0 : w22.cell? ⟨gb397, 0, none⟩ = some (.int .i64 t392) := (blk_cell BK397.out 0).trans rfl; have hcz23_1 : w22.cell? ⟨gb397, 1, none⟩ = some (.int .i64 t393) := (blk_cell BK397.out 1).trans rfl; have hcz23_2 : w22.cell? ⟨gb397, 2, none⟩ = some (.int .i64 t394) := (blk_cell BK397.out 2).trans rfl; have hcz23_3 : w22.cell? ⟨gb397, 3, none⟩ = some (.int .i64 t395) := (blk_cell BK397.out 3).trans rfl; have hfz23_0 := blk_frozen BK397.out 0; have hfz23_1 := blk_frozen BK397.out 1; have hfz23_2 := blk_frozen BK397.out 2; have hfz23_3 := blk_frozen BK397.out 3) | ((with_reducible refine gate_callee (f := 10) rfl ?_); refine goesL_ (some 118) rfl rfl Tryz.func10 (by kernel_rfl) rfl #[.agg #[.int .i64 t392, .int .i64 t393, .int .i64 t394, .int .i64 t395], .int .i64 t396] rfl (by (try simp only [List.map_toArray, List.map_cons, List.map_nil]); first | done | rfl | (simp only [List.length_drop, List.length_take]; rfl)) ?_; (with_reducible refine (impl_RunToRight.calls k t392 t393 t394 t395 t396 t412 t413 t414 _ A10.out).mono ?_); rintro e w24 ⟨rfl, hb⟩; refine ⟨_, rfl, ?_⟩; have n0_ := Aside0.mk (Kd.S_below (by (with_reducible repeat (first | apply Kd.S_alloc | apply Kd.S_drewN | apply Kd.S_drew)); exact HO400.out) hb); have n1_ := Aside0.mk (Kd.S_below (by (with_reducible repeat (first | apply Kd.S_alloc | apply Kd.S_drewN | apply Kd.S_drew)); exact HO404.out) hb); have n2_ := Aside0.mk (blk_below (g := gb397) (o := .cells #[.int .i64 t392, .int .i64 t393, .int .i64 t394, .int .i64 t395] 25 (0, 0)) bk_ hb); have n3_ := Aside0.mk (below_step bw_ hb); clear HO400; clear HO404; clear BK397; clear HB; have HO400 := n0_; have HO404 := n1_; have BK397 := n2_; have HB := n3_; clear n0_ n1_ n2_ n3_; (try clear hb); (try clear hb2); (try clear hk); (try clear hi); have hcz25_0 : w24.cell? ⟨gb397, 0, none⟩ = some (.int .i64 t392) := (blk_cell BK397.out 0).trans rfl; have hcz25_1 : w24.cell? ⟨gb397, 1, none⟩ = some (.int .i64 t393) := (blk_cell BK397.out 1).trans rfl; have hcz25_2 : w24.cell? ⟨gb397, 2, none⟩ = some (.int .i64 t394) := (blk_cell BK397.out 2).trans rfl; have hcz25_3 : w24.cell? ⟨gb397, 3, none⟩ = some (.int .i64 t395) := (blk_cell BK397.out 3).trans rfl; have hfz25_0 := blk_frozen BK397.out 0; have hfz25_1 := blk_frozen BK397.out 1; have hfz25_2 := blk_frozen BK397.out 2; have hfz25_3 := blk_frozen BK397.out 3) | ((with_reducible refine gate_callee (f := 11) rfl ?_); refine goesL_ (some 125) rfl rfl Tryz.func11 (by kernel_rfl) rfl #[.agg #[.int .i64 t392, .int .i64 t393, .int .i64 t394, .int .i64 t395], .int .i64 t396] rfl (by (try simp only [List.map_toArray, List.map_cons, List.map_nil]); first | done | rfl | (simp only [List.length_drop, List.length_take]; rfl)) ?_; (with_reducible refine (spec_RunToRight.calls k t392 t393 t394 t395 t396 t415 t416 t417 _ A11.out).mono ?_); rintro e w26 ⟨rfl, hb⟩; refine ⟨_, rfl, ?_⟩; have n0_ := Aside0.mk (Kd.S_below (by (with_reducible repeat (first | apply Kd.S_alloc | apply Kd.S_drewN | apply Kd.S_drew)); exact HO400.out) hb); have n1_ := Aside0.mk (Kd.S_below (by (with_reducible repeat (first | apply Kd.S_alloc | apply Kd.S_drewN | apply Kd.S_drew)); exact HO404.out) hb); have n2_ := Aside0.mk (blk_below (g := gb397) (o := .cells #[.int .i64 t392, .int .i64 t393, .int .i64 t394, .int .i64 t395] 25 (0, 0)) bk_ hb); have n3_ := Aside0.mk (below_step bw_ hb); clear HO400; clear HO404; clear BK397; clear HB; have HO400 := n0_; have HO404 := n1_; have BK397 := n2_; have HB := n3_; clear n0_ n1_ n2_ n3_; (try clear hb); (try clear hb2); (try clear hk); (try clear hi)))
   (try simp only [Act.put, List.setIfInBounds_toArray, List.set_cons_zero, List.set_cons_succ])
   go_cut [192] from 129 to 192 (fun v192 wc => ∃ (kq : Nat) (x192_11 : Bool), v192 = .bool x192_11 ∧ Aside0 (laws_FnDogsTurn.j0 kq l1 t396 t398 t401 t406 t407 t412 t413 x192_11 t392 t393 t394 t395 = some r) ∧ Aside0 (kq ≤ k) ∧ Aside0 (Kd.S (Kd.slice 3 (Kd.int .i64)) 36 wc w.heap.size (fun _ => True) v399 t398) ∧ Aside0 (wc.heap[gb397]? = some (.cells #[.int .i64 t392, .int .i64 t393, .int .i64 t394, .int .i64 t395] 25 (0, 0))) ∧ Aside0 (Below w.heap.size w wc))
   case first =>
    rename_i z1_ z2_ z3_ z4_ z5_ z6_ z7_ z8_ z9_ z10_
    revert hL0 HRT hu25 HR0 HC0 HR1 HC1 A3 t392 t393 t394 t395 t396 A5 t398 t401 A6 t402 t405 A7 t406 t407 t408 A8 t409 t410 t411 A9 t412 t413 t414 A10 t415 t416 t417 A11 HC12 z1_ nd z2_ w13 gb397 w14 GW397 GE397 hcz15_0 hcz15_1 hcz15_2 hcz15_3 hfz15_0 hfz15_1 hfz15_2 hfz15_3 w16 v399 hcz17_0 hcz17_1 hcz17_2 hcz17_3 hfz17_0 hfz17_1 hfz17_2 hfz17_3 w18 v403 hcz19_0 hcz19_1 hcz19_2 hcz19_3 hfz19_0 hfz19_1 hfz19_2 hfz19_3 w20 hcz21_0 hcz21_1 hcz21_2 hcz21_3 hfz21_0 hfz21_1 hfz21_2 hfz21_3 w22 hcz23_0 hcz23_1 hcz23_2 hcz23_3 hfz23_0 hfz23_1 hfz23_2 hfz23_3 w24 hcz25_0 hcz25_1 hcz25_2 hcz25_3 hfz25_0 hfz25_1 hfz25_2 hfz25_3 w26 HO400 HO404 BK397 HB z3_ z4_ z5_ z6_ z7_ z8_ z9_ z10_
    exact hP1.out
   case rest => as_aux_lemma =>
    clear HC12
    (try clear c1)
    obtain ⟨kq, x192_11, rfl, HA, HJ11, HO_7, BK397, HB⟩ := hcut
    cases kq with
    | zero => exact absurd HA.out (by simp [laws_FnDogsTurn.j0])
    | succ kj11 =>
     have H := HA.out
     clear HA
     simp only [laws_FnDogsTurn.j0] at H
     by_cases c54 : x192_11 = true
     ·
      subst c54
      rw [if_pos rfl] at H
      exact absurd ((Option.some.inj H).trans HRT.out) (by decide)
     ·
      replace c54 := Bool.eq_false_iff.mpr c54
      subst c54
      rw [if_neg (show ¬ (false = true) by decide)] at H
      have HC55 := Aside0.mk H
      clear H
      go_upto_if 193 with (fail)
      go_cut [] from 194 to 374 (fun wc => ∃ (kq : Nat), Aside0 (laws_FnDogsTurn.j5 kq l1 = some r) ∧ Aside0 (kq ≤ kj11) ∧ Aside0 (wc.heap[gb397]? = some (.cells #[.int .i64 t392, .int .i64 t393, .int .i64 t394, .int .i64 t395] 25 (0, 0))) ∧ Aside0 (Below w.heap.size w wc))
      case first => as_aux_lemma =>
       have H := HC55.out
       clear HC55
       by_cases c56 : t401 = true
       ·
        subst c56
        rw [if_pos rfl] at H
        have HC57 := Aside0.mk H
        clear H
        go_upto_region 13 with (fail)
        go_cut [213] from 194 to 213 (fun v213 wc => ∃ (kq : Nat) (x213_56 : Bool), v213 = .bool x213_56 ∧ Aside0 (laws_FnDogsTurn.j1 kq l1 t396 t398 x213_56 t392 t393 t394 t395 = some r) ∧ Aside0 (kq ≤ kj11) ∧ Aside0 (Kd.S (Kd.slice 3 (Kd.int .i64)) 36 wc w.heap.size (fun _ => True) v399 t398) ∧ Aside0 (wc.heap[gb397]? = some (.cells #[.int .i64 t392, .int .i64 t393, .int .i64 t394, .int .i64 t395] 25 (0, 0))) ∧ Aside0 (Below w.heap.size w wc))
        case first =>
         rename_i z1_ z2_ z3_ z4_ z5_ z6_ z7_ z8_ z9_ z10_ z11_ z12_ z13_ z14_ z15_ z16_ z17_ z18_
         revert hL0 HRT hu25 HR0 HC0 HR1 HC1 A3 t392 t393 t394 t395 t396 A5 t398 t402 t405 A7 t406 t407 t408 A8 t409 t410 t411 A9 t412 t413 t414 A10 t415 t416 t417 A11 z1_ nd z2_ w13 gb397 w14 GW397 GE397 hcz15_0 hcz15_1 hcz15_2 hcz15_3 hfz15_0 hfz15_1 hfz15_2 hfz15_3 w16 v399 hcz17_0 hcz17_1 hcz17_2 hcz17_3 hfz17_0 hfz17_1 hfz17_2 hfz17_3 w18 v403 hcz19_0 hcz19_1 hcz19_2 hcz19_3 hfz19_0 hfz19_1 hfz19_2 hfz19_3 w20 hcz21_0 hcz21_1 hcz21_2 hcz21_3 hfz21_0 hfz21_1 hfz21_2 hfz21_3 w22 hcz23_0 hcz23_1 hcz23_2 hcz23_3 hfz23_0 hfz23_1 hfz23_2 hfz23_3 w24 hcz25_0 hcz25_1 hcz25_2 hcz25_3 hfz25_0 hfz25_1 hfz25_2 hfz25_3 w26 HO400 HO404 z3_ z4_ wc u129 u130 u131 u132 u133 u134 u135 u136 u137 u138 u139 u140 u141 u142 u143 u144 u145 u146 u147 u148 u149 u150 u151 u152 u153 u154 u155 u156 u157 u158 u159 u160 u161 u162 u163 u164 u165 u166 u167 u168 u169 u170 u171 u172 u173 u174 u175 u176 u177 u178 u179 u180 u181 u182 u183 u184 u185 u186 u187 u188 u189 u190 u191 HO_7 BK397 HB kj11 HJ11 z5_ z6_ z7_ z8_ z9_ A6 z10_ HC57 z11_ z12_ z13_ z14_ z15_ z16_ z17_ z18_
         exact hP2.out
        case rest => as_aux_lemma =>
         clear HC57
         (try clear c1); (try clear c54); (try clear c56)
         obtain ⟨kq, x213_56, rfl, HA, HJ56, HO_7, BK397, HB⟩ := hcut
         cases kq with
         | zero => exact absurd HA.out (by simp [laws_FnDogsTurn.j1])
         | succ kj56 =>
          have H := HA.out
          clear HA
          simp only [laws_FnDogsTurn.j1] at H
          by_cases c64 : x213_56 = true
          ·
           subst c64
           rw [if_pos rfl] at H
           exact absurd ((Option.some.inj H).trans HRT.out) (by decide)
          ·
           replace c64 := Bool.eq_false_iff.mpr c64
           subst c64
           rw [if_neg (show ¬ (false = true) by decide)] at H
           have H' := Aside0.mk H
           clear H
           obtain ⟨Ao65, co65, eo65⟩ := Kd.S_slice HO_7.out
           subst eo65
           go_wp2
           go_loopg [216] kj56 (fun kq v216 w' => ∃ (x216_3 : Int), v216 = .int .i64 x216_3 ∧ Aside0 (laws_FnDogsTurn.l0 kq l1 t396 t398 t398 (t398.length : Int) x216_3 t392 t393 t394 t395 = some r) ∧ Aside0 (kq ≤ kj56) ∧ Aside0 (Kd.S (Kd.slice 3 (Kd.int .i64)) 36 w' w.heap.size (fun _ => True) (.slice Ao65 t398.length co65) t398) ∧ Aside0 (Kd.S (Kd.slice 3 (Kd.int .i64)) 36 w' w.heap.size (fun _ => True) (.slice Ao65 t398.length co65) t398) ∧ Aside0 (w'.heap[gb397]? = some (.cells #[.int .i64 t392, .int .i64 t393, .int .i64 t394, .int .i64 t395] 25 (0, 0))) ∧ Aside0 (Below w.heap.size w w'))
           case atStart => exact ⟨(0), (by first | rfl | (simp; done) | (simp [*]; done)), H', ⟨Nat.le_refl _⟩, ⟨by (with_reducible repeat (first | apply Kd.S_alloc | apply Kd.S_drewN | apply Kd.S_drew)); exact HO_7.out⟩, ⟨by (with_reducible repeat (first | apply Kd.S_alloc | apply Kd.S_drewN | apply Kd.S_drew)); exact HO_7.out⟩, ⟨bk_⟩, ⟨bw_⟩⟩
           case round => as_aux_lemma =>
            clear H'
            (try clear c1); (try clear c54); (try clear c56); (try clear c64)
            obtain ⟨x216_3, rfl, HA, HK3, HO_7, HO_214, BK397, HB⟩ := hrel
            cases gk with
            | zero => exact absurd HA.out (by simp [laws_FnDogsTurn.l0])
            | succ k3 =>
             have H := HA.out
             clear HA
             simp only [laws_FnDogsTurn.l0] at H
             by_cases c66 : x216_3 < (t398.length : Int)
             ·
              rw [if_pos c66] at H
              have c66b0 : decide (x216_3 < (t398.length : Int)) = true := decide_eq_true c66
              clear c66
              by_cases c67 : 0 ≤ x216_3
              ·
               rw [if_pos c67] at H
               have c67b0 : decide (0 ≤ x216_3) = true := decide_eq_true c67
               clear c67
               by_cases c68 : x216_3 < (t398.length : Int)
               ·
                rw [if_pos c68] at H
                have c68b0 : decide (x216_3 < (t398.length : Int)) = true := decide_eq_true c68
                clear c68
                have HC69 := Aside0.mk H
                clear H
                have p424 : 0 ≤ (x216_3 : Int) := of_decide_eq_true (by first | (with_reducible assumption) | assumption)
                have q424 : x216_3 < (t398.length : Int) := of_decide_eq_true (by first | (with_reducible assumption) | assumption)
                obtain ⟨ad424, A424_0, c424_0, e424, hx424_0, hl424_0, hi424_0⟩ := at_L2 (Kd.S_reads' HO_214.out).2.2 x216_3 p424 q424
                cases e424
                obtain ⟨ce424, hce424, hMe424, hcc424⟩ := Kd.S_get HO_214.out [] x216_3 p424 (by first | exact q424 | exact of_decide_eq_true (by first | (with_reducible assumption) | assumption) | (have e_ := (Kd.S_reads' HO_214.out).1; omega))
                obtain ⟨ve424_0, rfl, ge424_0⟩ := hMe424
                have hv424_0 := hcc424 0 _ rfl
                rw [Nat.add_zero, show ((Kd.slice 3 (Kd.int .i64))).sz = 1 from rfl, Nat.mul_one] at hv424_0
                replace hv424_0 := Option.some.inj (hv424_0.symm.trans hx424_0)
                rw [hv424_0] at ge424_0
                have HL424_0 := Aside0.mk (show Kd.R (Kd.int .i64) 3 _ _ _ _ (rd_L2 t398 x216_3) from ge424_0)
                clear hv424_0 ge424_0
                clear hcc424 hce424
                have HR424_0 := Aside0.mk hi424_0
                have HC424_0 := Aside0.mk hl424_0
                clear hi424_0 hl424_0
                replace p424 := eq_true p424
                replace q424 := eq_true q424
                go_upto_region 18 with (fail)
                go_cut [276] from 221 to 276 (fun v276 wc => ∃ (kq : Nat) (x276_68 : Bool), v276 = .bool x276_68 ∧ Aside0 (laws_FnDogsTurn.j3 kq l1 t396 t398 x216_3 t398 (t398.length : Int) x216_3 x276_68 t392 t393 t394 t395 = some r) ∧ Aside0 (kq ≤ k3) ∧ Aside0 (Kd.S (Kd.slice 3 (Kd.int .i64)) 36 wc w.heap.size (fun _ => True) (.slice (some ad424) t398.length co65) t398) ∧ Aside0 (Kd.S (Kd.slice 3 (Kd.int .i64)) 36 wc w.heap.size (fun _ => True) (.slice (some ad424) t398.length co65) t398) ∧ Aside0 (wc.heap[gb397]? = some (.cells #[.int .i64 t392, .int .i64 t393, .int .i64 t394, .int .i64 t395] 25 (0, 0))) ∧ Aside0 (Kd.C (Kd.int .i64) wc A424_0 (rd_L2 t398 x216_3).length (rd_L2 t398 x216_3)) ∧ Aside0 (Below w.heap.size w wc))
                case first =>
                 rename_i z1_ z2_ z3_ z4_ z5_ z6_ z7_ z8_ z9_ z10_ z11_ z12_ z13_ z14_ z15_ z16_ z17_ z18_ z19_ z20_ z21_ z22_ z23_ z24_ z25_ z26_ z27_ z28_ z29_ z30_ z31_
                 revert hL0 HRT hu25 HR0 HC0 HR1 HC1 A3 t392 t393 t394 t395 t396 A5 t398 t402 t405 A7 t406 t407 t408 A8 t409 t410 t411 A9 t412 t413 t414 A10 t415 t416 t417 A11 z1_ nd z2_ w13 gb397 w14 GW397 GE397 hcz15_0 hcz15_1 hcz15_2 hcz15_3 hfz15_0 hfz15_1 hfz15_2 hfz15_3 w16 hcz17_0 hcz17_1 hcz17_2 hcz17_3 hfz17_0 hfz17_1 hfz17_2 hfz17_3 w18 v403 hcz19_0 hcz19_1 hcz19_2 hcz19_3 hfz19_0 hfz19_1 hfz19_2 hfz19_3 w20 hcz21_0 hcz21_1 hcz21_2 hcz21_3 hfz21_0 hfz21_1 hfz21_2 hfz21_3 w22 hcz23_0 hcz23_1 hcz23_2 hcz23_3 hfz23_0 hfz23_1 hfz23_2 hfz23_3 w24 hcz25_0 hcz25_1 hcz25_2 hcz25_3 hfz25_0 hfz25_1 hfz25_2 hfz25_3 w26 z3_ z4_ z5_ u129 u130 u131 u132 u133 u134 u135 u136 u137 u138 u139 u140 u141 u142 u143 u144 u145 u146 u147 u148 u149 u150 u151 u152 u153 u154 u155 u156 u157 u158 u159 u160 u161 u162 u163 u164 u165 u166 u167 u168 u169 u170 u171 u172 u173 u174 u175 u176 u177 u178 u179 u180 u181 u182 u183 u184 u185 u186 u187 u188 u189 u190 u191 z6_ z7_ kj11 HJ11 z8_ z9_ z10_ z11_ z12_ A6 wc u194 u195 u196 u197 u198 u199 u200 u201 u202 u203 u204 u205 u206 u207 u208 u209 u210 u211 u212 z13_ z14_ kj56 HJ56 co65 wr u4 u23 u24 u25 u26 u27 u28 u29 u217 u218 u219 u220 u221 u222 u223 u224 u225 u226 u227 u228 u229 u230 u231 u232 u233 u234 u235 u236 u237 u238 u239 u240 u241 u242 u243 u244 u245 u246 u247 u248 u249 u250 u251 u252 u253 u254 u255 u256 u257 u258 u259 u260 u261 u262 u263 u264 u265 u266 u267 u268 u269 u270 u271 u272 u273 u274 u275 u276 u277 u278 u279 u280 u281 u282 u283 u284 u285 u286 u287 u288 u289 u290 u291 u292 u293 u294 u295 u296 u297 u298 u299 u300 u301 u302 u303 u304 u305 u306 u307 u308 u309 u310 u311 u312 u313 u314 u315 u316 u317 u318 u319 u320 u321 u322 u323 u324 u325 u326 u327 u328 u329 u330 u331 u332 u333 u334 u335 u336 u337 u338 u339 u340 u341 u342 u343 u344 u345 u346 u347 u348 u349 u350 u351 u352 u353 u354 u355 u356 u357 u358 u359 u360 u361 u362 u363 u364 u365 u366 u367 u368 u369 u370 u371 u372 u373 u374 z15_ z16_ x216_3 BK397 HB k3 z17_ HK3 c66b0 c67b0 c68b0 HC69 ad424 A424_0 c424_0 hx424_0 HO400 HO404 z18_ z19_ z20_ z21_ HO_7 HO_214 ve424_0 HL424_0 HR424_0 HC424_0 p424 q424 z22_ z23_ z24_ z25_ z26_ z27_ z28_ z29_ z30_ z31_
                 exact hP3.out
                case rest => as_aux_lemma =>
                 clear HC69
                 (try clear c1)
                 obtain ⟨kq, x276_68, rfl, HA, HJ68, HO_7, HO_214, BK397, HR424_0, HB⟩ := hcut
                 cases kq with
                 | zero => exact absurd HA.out (by simp [laws_FnDogsTurn.j3])
                 | succ kj68 =>
                  have H := HA.out
                  clear HA
                  simp only [laws_FnDogsTurn.j3] at H
                  by_cases c89 : x276_68 = true
                  ·
                   subst c89
                   rw [if_pos rfl] at H
                   exact absurd ((Option.some.inj H).trans HRT.out) (by decide)
                  ·
                   replace c89 := Bool.eq_false_iff.mpr c89
                   subst c89
                   rw [if_neg (show ¬ (false = true) by decide)] at H
                   by_cases c90 : x216_3 > 2
                   ·
                    rw [if_pos c90] at H
                    have c90b0 : decide (2 < x216_3) = true := decide_eq_true c90
                    clear c90
                    have H' := Aside0.mk H
                    clear H
                    go_wp2
                    go_roundg kj68
                    case measure => have := HJ11.out; have := HJ56.out; have := HK3.out; have := HJ68.out; omega
                    case rel => exact ⟨(wrap64 (x216_3 + 1)), (by first | rfl | (simp; done) | (simp [*]; done)), H', ⟨by have := HJ11.out; have := HJ56.out; have := HK3.out; have := HJ68.out; omega⟩, ⟨by (with_reducible repeat (first | apply Kd.S_alloc | apply Kd.S_drewN | apply Kd.S_drew)); exact HO_7.out⟩, ⟨by (with_reducible repeat (first | apply Kd.S_alloc | apply Kd.S_drewN | apply Kd.S_drew)); exact HO_214.out⟩, ⟨bk_⟩, ⟨bw_⟩⟩
                   ·
                    rw [if_neg c90] at H
                    have c90b0 : decide (2 < x216_3) = false := decide_eq_false c90
                    clear c90
                    by_cases c91 : 2 < ((rd_L2 t398 x216_3).length : Int)
                    ·
                     rw [if_pos c91] at H
                     have c91b0 : decide (2 < ((rd_L2 t398 x216_3).length : Int)) = true := decide_eq_true c91
                     have c91b1 : decide (2 < (rd_L2 t398 x216_3).length) = true := decide_eq_true (by omega)
                     clear c91
                     by_cases c92 : 1 < ((rd_L2 t398 x216_3).length : Int)
                     ·
                      rw [if_pos c92] at H
                      have c92b0 : decide (1 < ((rd_L2 t398 x216_3).length : Int)) = true := decide_eq_true c92
                      have c92b1 : decide (1 < (rd_L2 t398 x216_3).length) = true := decide_eq_true (by omega)
                      clear c92
                      by_cases c93 : 0 < ((rd_L2 t398 x216_3).length : Int)
                      ·
                       rw [if_pos c93] at H
                       have c93b0 : decide (0 < ((rd_L2 t398 x216_3).length : Int)) = true := decide_eq_true c93
                       have c93b1 : decide (0 < (rd_L2 t398 x216_3).length) = true := decide_eq_true (by omega)
                       clear c93
                       by_cases c94 : 3 < ((rd_L2 t398 x216_3).length : Int)
                       ·
                        rw [if_pos c94] at H
                        have c94b0 : decide (3 < ((rd_L2 t398 x216_3).length : Int)) = true := decide_eq_true c94
                        have c94b1 : decide (3 < (rd_L2 t398 x216_3).length) = true := decide_eq_true (by omega)
                        clear c94
                        have HC95 := Aside0.mk H
                        clear H
                        try go_wp2
                        have n0_ := Aside0.mk (Kd.S_drew HO_7.out)
                        have n1_ := Aside0.mk (Kd.S_drew HO_214.out)
                        have n2_ := Aside0.mk (blk_drew BK397.out)
                        have n3_ := Aside0.mk (Kd.C_drew HR424_0.out)
                        have n4_ := Aside0.mk (below_drew1 HB.out)
                        clear HO_7
                        clear HO_214
                        clear BK397
                        clear HR424_0
                        clear HB
                        have HO_7 := n0_
                        have HO_214 := n1_
                        have BK397 := n2_
                        have HR424_0 := n3_
                        have HB := n4_
                        clear n0_ n1_ n2_ n3_ n4_
                        have p437 : 0 ≤ (2 : Int) := (by omega)
                        have q437 : 2 < ((rd_L2 t398 x216_3).length : Int) := of_decide_eq_true (by first | (with_reducible assumption) | assumption)
                        obtain ⟨ad437, e437, hx437_0⟩ := Kd.at_int (by repeat (first | (with_reducible exact HR424_0.out) | (with_reducible refine Kd.C_alloc ?_ _) | (with_reducible refine Kd.C_drewN ?_ _) | (with_reducible refine Kd.C_drew ?_) | exact HR424_0.out)) 2 p437 q437
                        cases e437
                        (try simp only [show (2 : Int).toNat = 2 from rfl, Nat.reduceMul, Nat.reduceEqDiff, Go.Addr.add, ↓reduceIte] at hx437_0)
                        have qi437 : (2 < (rd_L2 t398 x216_3).length) = True := eq_true (by omega)
                        (try rw [show ((2 : Int)).toNat = 2 from rfl] at hx437_0)
                        replace p437 := eq_true p437
                        replace q437 := eq_true q437
                        have p438 : 0 ≤ (1 : Int) := (by omega)
                        have q438 : 1 < ((rd_L2 t398 x216_3).length : Int) := of_decide_eq_true (by first | (with_reducible assumption) | assumption)
                        obtain ⟨ad438, e438, hx438_0⟩ := Kd.at_int (by repeat (first | (with_reducible exact HR424_0.out) | (with_reducible refine Kd.C_alloc ?_ _) | (with_reducible refine Kd.C_drewN ?_ _) | (with_reducible refine Kd.C_drew ?_) | exact HR424_0.out)) 1 p438 q438
                        obtain rfl : ad437 = ad438 := (by injection e438)
                        (try simp only [show (1 : Int).toNat = 1 from rfl, Nat.reduceMul, Nat.reduceEqDiff, Go.Addr.add, ↓reduceIte] at hx438_0)
                        have qi438 : (1 < (rd_L2 t398 x216_3).length) = True := eq_true (by omega)
                        (try rw [show ((1 : Int)).toNat = 1 from rfl] at hx438_0)
                        replace p438 := eq_true p438
                        replace q438 := eq_true q438
                        have p439 : 0 ≤ (0 : Int) := (by omega)
                        have q439 : 0 < ((rd_L2 t398 x216_3).length : Int) := of_decide_eq_true (by first | (with_reducible assumption) | assumption)
                        obtain ⟨ad439, e439, hx439_0⟩ := Kd.at_int (by repeat (first | (with_reducible exact HR424_0.out) | (with_reducible refine Kd.C_alloc ?_ _) | (with_reducible refine Kd.C_drewN ?_ _) | (with_reducible refine Kd.C_drew ?_) | exact HR424_0.out)) 0 p439 q439
                        obtain rfl : ad437 = ad439 := (by injection e439)
                        have qi439 : (0 < (rd_L2 t398 x216_3).length) = True := eq_true (by omega)
                        (try rw [show ((0 : Int)).toNat = 0 from rfl] at hx439_0)
                        (try rw [Addr.add_zero'] at hx439_0)
                        replace p439 := eq_true p439
                        replace q439 := eq_true q439
                        have p440 : 0 ≤ (3 : Int) := (by omega)
                        have q440 : 3 < ((rd_L2 t398 x216_3).length : Int) := of_decide_eq_true (by first | (with_reducible assumption) | assumption)
                        obtain ⟨ad440, e440, hx440_0⟩ := Kd.at_int (by repeat (first | (with_reducible exact HR424_0.out) | (with_reducible refine Kd.C_alloc ?_ _) | (with_reducible refine Kd.C_drewN ?_ _) | (with_reducible refine Kd.C_drew ?_) | exact HR424_0.out)) 3 p440 q440
                        obtain rfl : ad437 = ad440 := (by injection e440)
                        (try simp only [show (3 : Int).toNat = 3 from rfl, Nat.reduceMul, Nat.reduceEqDiff, Go.Addr.add, ↓reduceIte] at hx440_0)
                        have qi440 : (3 < (rd_L2 t398 x216_3).length) = True := eq_true (by omega)
                        (try rw [show ((3 : Int)).toNat = 3 from rfl] at hx440_0)
                        replace p440 := eq_true p440
                        replace q440 := eq_true q440
                        refine start_ (n := 19) (S := fun w' => w'.cell? ⟨gb397, 0, none⟩ = some (.int .i64 t392) ∧ w'.cell? ⟨gb397, 1, none⟩ = some (.int .i64 t393) ∧ w'.cell? ⟨gb397, 2, none⟩ = some (.int .i64 t394) ∧ w'.cell? ⟨gb397, 3, none⟩ = some (.int .i64 t395) ∧ w'.cell? ⟨ad437.block, ad437.off + 2, none⟩ = some (.int .i64 (rd (rd_L2 t398 x216_3) 2)) ∧ w'.cell? ⟨ad437.block, ad437.off + 1, none⟩ = some (.int .i64 (rd (rd_L2 t398 x216_3) 1)) ∧ w'.cell? ad437 = some (.int .i64 (rd (rd_L2 t398 x216_3) 0)) ∧ w'.cell? ⟨ad437.block, ad437.off + 3, none⟩ = some (.int .i64 (rd (rd_L2 t398 x216_3) 3))) (ds := []) #[false, false, false, false, false, false, false, false, false, false, false, false, false, false, false, false, false, false, false] (by kernel_rfl) rfl rfl ⟨(blk_cell BK397.out 0).trans rfl, (blk_cell BK397.out 1).trans rfl, (blk_cell BK397.out 2).trans rfl, (blk_cell BK397.out 3).trans rfl, hx437_0, hx438_0, hx439_0, hx440_0⟩ (fun hHeld => ?_); refine with_tabW laws_FnDogsTurn.tab21 laws_FnDogsTurn.bits21 (fun HT_ HW_ => ?_)
                        generalize wc.drew = w96 at HO_7 HO_214 BK397 HR424_0 HB hx437_0 hx438_0 hx439_0 hx440_0 hHeld ⊢
                        refine pu_ 0 279 19 1 ?_
                        refine pu_ 1 280 19 3 ?_
                        refine pu_ 3 282 19 11 ?_
                        refine pu_ 4 283 19 27 ?_
                        refine pu_ 7 286 19 155 ?_
                        refine pu_ 9 288 19 667 ?_
                        refine pu_ 10 289 19 1691 ?_
                        refine pu_ 13 292 19 9883 ?_
                        refine pu_ 14 293 19 26267 ?_
                        refine tk_ 2 281 19 26271 hHeld ?_
                        refine tk_ 5 284 19 26303 hHeld ?_
                        refine pu_ 6 285 19 26367 ?_
                        refine tk_ 8 287 19 26623 hHeld ?_
                        refine tk_ 11 290 19 28671 hHeld ?_
                        refine pu_ 12 291 19 32767 ?_
                        refine tk_ 15 294 19 65535 hHeld ?_
                        refine pu_ 16 295 19 131071 ?_
                        refine pu_ 17 296 19 262143 ?_
                        refine pu_ 18 25 19 524287 ?_
                        refine done_ (done_of HT_.out (by kernel_rfl)) ?_
                        try go_wp2
                        have n0_ := Aside0.mk (Kd.S_drew HO_7.out)
                        have n1_ := Aside0.mk (Kd.S_drew HO_214.out)
                        have n2_ := Aside0.mk (blk_drew BK397.out)
                        have n3_ := Aside0.mk (Kd.C_drew HR424_0.out)
                        have n4_ := Aside0.mk (below_drew1 HB.out)
                        clear HO_7
                        clear HO_214
                        clear BK397
                        clear HR424_0
                        clear HB
                        have HO_7 := n0_
                        have HO_214 := n1_
                        have BK397 := n2_
                        have HR424_0 := n3_
                        have HB := n4_
                        clear n0_ n1_ n2_ n3_ n4_
                        have p441 : 0 ≤ (1 : Int) := (by omega)
                        have q441 : 1 < ((rd_L2 t398 x216_3).length : Int) := of_decide_eq_true (by first | (with_reducible assumption) | assumption)
                        obtain ⟨ad441, e441, hx441_0⟩ := Kd.at_int (by repeat (first | (with_reducible exact HR424_0.out) | (with_reducible refine Kd.C_alloc ?_ _) | (with_reducible refine Kd.C_drewN ?_ _) | (with_reducible refine Kd.C_drew ?_) | exact HR424_0.out)) 1 p441 q441
                        obtain rfl : ad437 = ad441 := (by injection e441)
                        (try simp only [show (1 : Int).toNat = 1 from rfl, Nat.reduceMul, Nat.reduceEqDiff, Go.Addr.add, ↓reduceIte] at hx441_0)
                        have qi441 : (1 < (rd_L2 t398 x216_3).length) = True := eq_true (by omega)
                        (try rw [show ((1 : Int)).toNat = 1 from rfl] at hx441_0)
                        replace p441 := eq_true p441
                        replace q441 := eq_true q441
                        have p442 : 0 ≤ (0 : Int) := (by omega)
                        have q442 : 0 < ((rd_L2 t398 x216_3).length : Int) := of_decide_eq_true (by first | (with_reducible assumption) | assumption)
                        obtain ⟨ad442, e442, hx442_0⟩ := Kd.at_int (by repeat (first | (with_reducible exact HR424_0.out) | (with_reducible refine Kd.C_alloc ?_ _) | (with_reducible refine Kd.C_drewN ?_ _) | (with_reducible refine Kd.C_drew ?_) | exact HR424_0.out)) 0 p442 q442
                        obtain rfl : ad437 = ad442 := (by injection e442)
                        have qi442 : (0 < (rd_L2 t398 x216_3).length) = True := eq_true (by omega)
                        (try rw [show ((0 : Int)).toNat = 0 from rfl] at hx442_0)
                        (try rw [Addr.add_zero'] at hx442_0)
                        replace p442 := eq_true p442
                        replace q442 := eq_true q442
                        have p443 : 0 ≤ (3 : Int) := (by omega)
                        have q443 : 3 < ((rd_L2 t398 x216_3).length : Int) := of_decide_eq_true (by first | (with_reducible assumption) | assumption)
                        obtain ⟨ad443, e443, hx443_0⟩ := Kd.at_int (by repeat (first | (with_reducible exact HR424_0.out) | (with_reducible refine Kd.C_alloc ?_ _) | (with_reducible refine Kd.C_drewN ?_ _) | (with_reducible refine Kd.C_drew ?_) | exact HR424_0.out)) 3 p443 q443
                        obtain rfl : ad437 = ad443 := (by injection e443)
                        (try simp only [show (3 : Int).toNat = 3 from rfl, Nat.reduceMul, Nat.reduceEqDiff, Go.Addr.add, ↓reduceIte] at hx443_0)
                        have qi443 : (3 < (rd_L2 t398 x216_3).length) = True := eq_true (by omega)
                        (try rw [show ((3 : Int)).toNat = 3 from rfl] at hx443_0)
                        replace p443 := eq_true p443
                        replace q443 := eq_true q443
                        have p444 : 0 ≤ (2 : Int) := (by omega)
                        have q444 : 2 < ((rd_L2 t398 x216_3).length : Int) := of_decide_eq_true (by first | (with_reducible assumption) | assumption)
                        obtain ⟨ad444, e444, hx444_0⟩ := Kd.at_int (by repeat (first | (with_reducible exact HR424_0.out) | (with_reducible refine Kd.C_alloc ?_ _) | (with_reducible refine Kd.C_drewN ?_ _) | (with_reducible refine Kd.C_drew ?_) | exact HR424_0.out)) 2 p444 q444
                        obtain rfl : ad437 = ad444 := (by injection e444)
                        (try simp only [show (2 : Int).toNat = 2 from rfl, Nat.reduceMul, Nat.reduceEqDiff, Go.Addr.add, ↓reduceIte] at hx444_0)
                        have qi444 : (2 < (rd_L2 t398 x216_3).length) = True := eq_true (by omega)
                        (try rw [show ((2 : Int)).toNat = 2 from rfl] at hx444_0)
                        replace p444 := eq_true p444
                        replace q444 := eq_true q444
                        have p445 : 0 ≤ (1 : Int) := (by omega)
                        have q445 : 1 < ((rd_L2 t398 x216_3).length : Int) := of_decide_eq_true (by first | (with_reducible assumption) | assumption)
                        obtain ⟨ad445, e445, hx445_0⟩ := Kd.at_int (by repeat (first | (with_reducible exact HR424_0.out) | (with_reducible refine Kd.C_alloc ?_ _) | (with_reducible refine Kd.C_drewN ?_ _) | (with_reducible refine Kd.C_drew ?_) | exact HR424_0.out)) 1 p445 q445
                        obtain rfl : ad437 = ad445 := (by injection e445)
                        (try simp only [show (1 : Int).toNat = 1 from rfl, Nat.reduceMul, Nat.reduceEqDiff, Go.Addr.add, ↓reduceIte] at hx445_0)
                        have qi445 : (1 < (rd_L2 t398 x216_3).length) = True := eq_true (by omega)
                        (try rw [show ((1 : Int)).toNat = 1 from rfl] at hx445_0)
                        replace p445 := eq_true p445
                        replace q445 := eq_true q445
                        refine start_ (n := 26) (S := fun w' => w'.cell? ⟨gb397, 0, none⟩ = some (.int .i64 t392) ∧ w'.cell? ⟨gb397, 1, none⟩ = some (.int .i64 t393) ∧ w'.cell? ⟨gb397, 2, none⟩ = some (.int .i64 t394) ∧ w'.cell? ⟨gb397, 3, none⟩ = some (.int .i64 t395) ∧ w'.cell? ⟨ad437.block, ad437.off + 1, none⟩ = some (.int .i64 (rd (rd_L2 t398 x216_3) 1)) ∧ w'.cell? ad437 = some (.int .i64 (rd (rd_L2 t398 x216_3) 0)) ∧ w'.cell? ⟨ad437.block, ad437.off + 3, none⟩ = some (.int .i64 (rd (rd_L2 t398 x216_3) 3)) ∧ w'.cell? ⟨ad437.block, ad437.off + 2, none⟩ = some (.int .i64 (rd (rd_L2 t398 x216_3) 2)) ∧ w'.cell? ⟨ad437.block, ad437.off + 1, none⟩ = some (.int .i64 (rd (rd_L2 t398 x216_3) 1))) (ds := []) #[false, false, false, false, false, false, false, false, false, false, false, false, false, false, false, false, false, false, false, false, false, false, false, false, false, false] (by kernel_rfl) rfl rfl ⟨(blk_cell BK397.out 0).trans rfl, (blk_cell BK397.out 1).trans rfl, (blk_cell BK397.out 2).trans rfl, (blk_cell BK397.out 3).trans rfl, hx441_0, hx442_0, hx443_0, hx444_0, hx445_0⟩ (fun hHeld => ?_); refine with_tabW laws_FnDogsTurn.tab22 laws_FnDogsTurn.bits22 (fun HT_ HW_ => ?_)
                        generalize w96.drew = w97 at HO_7 HO_214 BK397 HR424_0 HB hx441_0 hx442_0 hx443_0 hx444_0 hx445_0 hHeld ⊢
                        refine pu_ 0 297 26 1 ?_
                        refine pu_ 2 299 26 5 ?_
                        refine pu_ 3 300 26 13 ?_
                        refine pu_ 6 303 26 77 ?_
                        refine pu_ 8 305 26 333 ?_
                        refine pu_ 9 306 26 845 ?_
                        refine pu_ 13 310 26 9037 ?_
                        refine pu_ 14 311 26 25421 ?_
                        refine pu_ 17 314 26 156493 ?_
                        refine pu_ 18 315 26 418637 ?_
                        refine pu_ 20 317 26 1467213 ?_
                        refine pu_ 21 318 26 3564365 ?_
                        refine tk_ 1 298 26 3564367 hHeld ?_
                        refine tk_ 4 301 26 3564383 hHeld ?_
                        refine pu_ 5 302 26 3564415 ?_
                        refine tk_ 7 304 26 3564543 hHeld ?_
                        refine tk_ 10 307 26 3565567 hHeld ?_
                        refine pu_ 11 308 26 3567615 ?_
                        refine pu_ 12 309 26 3571711 ?_
                        refine tk_ 15 312 26 3604479 hHeld ?_
                        refine pu_ 16 313 26 3670015 ?_
                        refine tk_ 19 316 26 4194303 hHeld ?_
                        refine tk_ 22 319 26 8388607 hHeld ?_
                        refine pu_ 23 320 26 16777215 ?_
                        refine pu_ 24 321 26 33554431 ?_
                        refine pu_ 25 26 26 67108863 ?_
                        refine done_ (done_of HT_.out (by kernel_rfl)) ?_
                        go_upto_region 23 with (fail)
                        go_cut [337] from 322 to 337 (fun v337 wc => ∃ (kq : Nat) (x337_94 : Bool), v337 = .bool x337_94 ∧ Aside0 (laws_FnDogsTurn.j4 kq l1 t396 t398 x216_3 t398 (t398.length : Int) x216_3 x337_94 t392 t393 t394 t395 = some r) ∧ Aside0 (kq ≤ kj68) ∧ Aside0 (Kd.S (Kd.slice 3 (Kd.int .i64)) 36 wc w.heap.size (fun _ => True) (.slice (some ad424) t398.length co65) t398) ∧ Aside0 (Kd.S (Kd.slice 3 (Kd.int .i64)) 36 wc w.heap.size (fun _ => True) (.slice (some ad424) t398.length co65) t398) ∧ Aside0 (wc.heap[gb397]? = some (.cells #[.int .i64 t392, .int .i64 t393, .int .i64 t394, .int .i64 t395] 25 (0, 0))) ∧ Aside0 (Kd.C (Kd.int .i64) wc (some ad437) (rd_L2 t398 x216_3).length (rd_L2 t398 x216_3)) ∧ Aside0 (Below w.heap.size w wc))
                        case first =>
                         rename_i z1_ z2_ z3_ z4_ z5_ z6_ z7_ z8_ z9_ z10_ z11_ z12_ z13_ z14_ z15_ z16_ z17_ z18_ z19_ z20_ z21_ z22_ z23_ z24_ z25_ z26_ z27_ z28_ z29_ z30_ z31_ z32_ z33_ z34_ z35_ z36_ z37_ z38_ z39_ z40_ z41_ z42_ z43_ z44_ z45_ z46_ z47_ z48_ z49_ z50_ z51_ z52_ z53_ z54_ z55_ z56_ z57_ z58_ z59_ z60_ z61_ z62_ z63_ z64_ z65_ z66_ z67_ z68_ z69_ z70_ z71_ z72_ z73_ z74_ z75_ z76_ z77_ z78_ z79_ z80_ z81_ z82_ z83_ z84_ z85_ z86_ z87_ z88_ z89_ z90_ z91_ z92_ z93_ z94_ z95_
                         revert hL0 HRT hu25 HR0 HC0 HR1 HC1 A3 t392 t393 t394 t395 t396 A5 t398 t402 t405 A7 t406 t407 t408 A8 t409 t410 t411 A9 t412 t413 t414 A10 t415 t416 t417 A11 z1_ nd z2_ w13 gb397 w14 GW397 GE397 hcz15_0 hcz15_1 hcz15_2 hcz15_3 hfz15_0 hfz15_1 hfz15_2 hfz15_3 w16 hcz17_0 hcz17_1 hcz17_2 hcz17_3 hfz17_0 hfz17_1 hfz17_2 hfz17_3 w18 v403 hcz19_0 hcz19_1 hcz19_2 hcz19_3 hfz19_0 hfz19_1 hfz19_2 hfz19_3 w20 hcz21_0 hcz21_1 hcz21_2 hcz21_3 hfz21_0 hfz21_1 hfz21_2 hfz21_3 w22 hcz23_0 hcz23_1 hcz23_2 hcz23_3 hfz23_0 hfz23_1 hfz23_2 hfz23_3 w24 hcz25_0 hcz25_1 hcz25_2 hcz25_3 hfz25_0 hfz25_1 hfz25_2 hfz25_3 w26 z3_ z4_ z5_ u129 u130 u131 u132 u133 u134 u135 u136 u137 u138 u139 u140 u141 u142 u143 u144 u145 u146 u147 u148 u149 u150 u151 u152 u153 u154 u155 u156 u157 u158 u159 u160 u161 u162 u163 u164 u165 u166 u167 u168 u169 u170 u171 u172 u173 u174 u175 u176 u177 u178 u179 u180 u181 u182 u183 u184 u185 u186 u187 u188 u189 u190 u191 z6_ z7_ kj11 HJ11 z8_ z9_ z10_ z11_ z12_ A6 z13_ u194 u195 u196 u197 u198 u199 u200 u201 u202 u203 u204 u205 u206 u207 u208 u209 u210 u211 u212 z14_ z15_ kj56 HJ56 co65 wr u4 u23 u24 u25 u26 u27 u28 u29 u217 u218 u219 u220 z16_ z17_ z18_ z19_ z20_ z21_ z22_ z23_ z24_ z25_ z26_ z27_ z28_ z29_ z30_ z31_ z32_ z33_ z34_ z35_ z36_ z37_ z38_ z39_ z40_ z41_ z42_ z43_ z44_ z45_ z46_ z47_ z48_ z49_ z50_ z51_ z52_ z53_ z54_ z55_ z56_ z57_ z58_ z59_ z60_ z61_ z62_ z63_ z64_ z65_ z66_ z67_ z68_ z69_ z70_ u276 u277 u278 u279 u280 u281 u282 u283 u284 u285 u286 u287 u288 u289 u290 u291 u292 u293 u294 u295 u296 u297 u298 u299 u300 u301 u302 u303 u304 u305 u306 u307 u308 u309 u310 u311 u312 u313 u314 u315 u316 u317 u318 u319 u320 u321 u322 u323 u324 u325 u326 u327 u328 u329 u330 u331 u332 u333 u334 u335 u336 u337 u338 u339 u340 u341 u342 u343 u344 u345 u346 u347 u348 u349 u350 u351 u352 u353 u354 u355 u356 u357 u358 u359 u360 u361 u362 u363 u364 u365 u366 u367 u368 u369 u370 u371 u372 u373 u374 z71_ z72_ x216_3 z73_ z74_ k3 z75_ HK3 c66b0 c67b0 c68b0 ad424 c424_0 HO400 HO404 z76_ z77_ z78_ z79_ z80_ z81_ ve424_0 HC424_0 p424 q424 z82_ z83_ wc u221 u222 u223 u224 u225 u226 u227 u228 u229 u230 u231 u232 u233 u234 u235 u236 u237 u238 u239 u240 u241 u242 u243 u244 u245 u246 u247 u248 u249 u250 u251 u252 u253 u254 u255 u256 u257 u258 u259 u260 u261 u262 u263 u264 u265 u266 u267 u268 u269 u270 u271 u272 u273 u274 u275 kj68 HJ68 c90b0 c91b0 c91b1 c92b0 c92b1 c93b0 c93b1 c94b0 c94b1 HC95 ad437 hx424_0 HL424_0 z84_ qi437 p437 q437 qi438 p438 q438 qi439 p439 q439 qi440 p440 q440 z85_ z86_ w96 hx437_0 hx438_0 hx439_0 hx440_0 z87_ e438 e439 e440 e441 qi441 p441 q441 e442 qi442 p442 q442 e443 qi443 p443 q443 e444 qi444 p444 q444 e445 qi445 p445 q445 HT_ HW_ w97 HO_7 HO_214 BK397 HR424_0 HB hx441_0 hx442_0 hx443_0 hx444_0 hx445_0 hHeld z88_ z89_ z90_ z91_ z92_ z93_ z94_ z95_
                         exact hP4.out
                        case rest =>
                         rename_i z1_ z2_ z3_ z4_ z5_ z6_ z7_ z8_ z9_ z10_ z11_ z12_ z13_ z14_ z15_ z16_ z17_ z18_ z19_ z20_ z21_ z22_ z23_ z24_ z25_ z26_ z27_ z28_ z29_ z30_ z31_ z32_ z33_ z34_ z35_ z36_ z37_ z38_ z39_ z40_ z41_ z42_ z43_ z44_ z45_ z46_ z47_ z48_ z49_ z50_ z51_ z52_ z53_ z54_ z55_ z56_ z57_ z58_ z59_ z60_ z61_ z62_ z63_ z64_ z65_ z66_ z67_ z68_ z69_ z70_ z71_ z72_ z73_ z74_ z75_ z76_ z77_ z78_ z79_ z80_ z81_ z82_ z83_ z84_ z85_ z86_ z87_ z88_ z89_ z90_ z91_ z92_ z93_ z94_ z95_ z96_ z97_ z98_ z99_ z100_ z101_ z102_ z103_ z104_ z105_ z106_ z107_ z108_
                         revert hL0 HRT hu25 HR0 HC0 HR1 HC1 A3 t392 t393 t394 t395 t396 A5 t398 t402 t405 A7 t406 t407 t408 A8 t409 t410 t411 A9 t412 t413 t414 A10 t415 t416 t417 A11 z1_ nd z2_ w13 gb397 w14 GW397 GE397 hcz15_0 hcz15_1 hcz15_2 hcz15_3 hfz15_0 hfz15_1 hfz15_2 hfz15_3 w16 hcz17_0 hcz17_1 hcz17_2 hcz17_3 hfz17_0 hfz17_1 hfz17_2 hfz17_3 w18 v403 hcz19_0 hcz19_1 hcz19_2 hcz19_3 hfz19_0 hfz19_1 hfz19_2 hfz19_3 w20 hcz21_0 hcz21_1 hcz21_2 hcz21_3 hfz21_0 hfz21_1 hfz21_2 hfz21_3 w22 hcz23_0 hcz23_1 hcz23_2 hcz23_3 hfz23_0 hfz23_1 hfz23_2 hfz23_3 w24 hcz25_0 hcz25_1 hcz25_2 hcz25_3 hfz25_0 hfz25_1 hfz25_2 hfz25_3 w26 z3_ z4_ z5_ u129 u130 u131 u132 u133 u134 u135 u136 u137 u138 u139 u140 u141 u142 u143 u144 u145 u146 u147 u148 u149 u150 u151 u152 u153 u154 u155 u156 u157 u158 u159 u160 u161 u162 u163 u164 u165 u166 u167 u168 u169 u170 u171 u172 u173 u174 u175 u176 u177 u178 u179 u180 u181 u182 u183 u184 u185 u186 u187 u188 u189 u190 u191 z6_ z7_ kj11 HJ11 z8_ z9_ z10_ z11_ z12_ A6 z13_ u194 u195 u196 u197 u198 u199 u200 u201 u202 u203 u204 u205 u206 u207 u208 u209 u210 u211 u212 z14_ z15_ kj56 HJ56 co65 wr u4 u23 u24 u25 u26 u27 u28 u29 u217 u218 u219 u220 z16_ z17_ z18_ z19_ z20_ z21_ z22_ z23_ z24_ z25_ z26_ z27_ z28_ z29_ z30_ z31_ z32_ z33_ z34_ z35_ z36_ z37_ z38_ z39_ z40_ z41_ z42_ z43_ z44_ z45_ z46_ z47_ z48_ z49_ z50_ z51_ z52_ z53_ z54_ z55_ z56_ z57_ z58_ z59_ z60_ z61_ z62_ z63_ z64_ z65_ z66_ z67_ z68_ z69_ z70_ u276 u277 u278 u279 u280 u281 u282 u283 u284 u285 u286 u287 u288 u289 u290 u291 u292 u293 u294 u295 u296 u297 u298 u299 u300 u301 u302 u303 u304 u305 u306 u307 u308 u309 u310 u311 u312 u313 u314 u315 u316 u317 u318 u319 u320 u321 z71_ z72_ z73_ z74_ z75_ z76_ z77_ z78_ z79_ z80_ z81_ z82_ z83_ z84_ z85_ z86_ u338 u339 u340 u341 u342 u343 u344 u345 u346 u347 u348 u349 u350 u351 u352 u353 u354 u355 u356 u357 u358 u359 u360 u361 u362 u363 u364 u365 u366 u367 u368 u369 u370 u371 u372 u373 u374 z87_ z88_ x216_3 z89_ z90_ k3 z91_ HK3 c66b0 c67b0 c68b0 ad424 c424_0 HO400 HO404 z92_ z93_ z94_ z95_ z96_ z97_ ve424_0 HC424_0 p424 q424 z98_ z99_ z100_ u221 u222 u223 u224 u225 u226 u227 u228 u229 u230 u231 u232 u233 u234 u235 u236 u237 u238 u239 u240 u241 u242 u243 u244 u245 u246 u247 u248 u249 u250 u251 u252 u253 u254 u255 u256 u257 u258 u259 u260 u261 u262 u263 u264 u265 u266 u267 u268 u269 u270 u271 u272 u273 u274 u275 kj68 HJ68 c90b0 c91b0 c91b1 c92b0 c92b1 c93b0 c93b1 c94b0 c94b1 HC95 ad437 hx424_0 HL424_0 z101_ qi437 p437 q437 qi438 p438 q438 qi439 p439 q439 qi440 p440 q440 z102_ z103_ w96 hx437_0 hx438_0 hx439_0 hx440_0 z104_ e438 e439 e440 e441 qi441 p441 q441 e442 qi442 p442 q442 e443 qi443 p443 q443 e444 qi444 p444 q444 e445 qi445 p445 q445 HT_ HW_ w97 HO_7 HO_214 BK397 HR424_0 HB hx441_0 hx442_0 hx443_0 hx444_0 hx445_0 hHeld z105_ z106_ z107_ z108_ wc u322 u323 u324 u325 u326 u327 u328 u329 u330 u331 u332 u333 u334 u335 u336 u337 hcut
                         exact hP5.out
                       ·
                        rw [if_neg c94] at H
                        exact absurd H (by simp)
                      ·
                       rw [if_neg c93] at H
                       exact absurd H (by simp)
                     ·
                      rw [if_neg c92] at H
                      exact absurd H (by simp)
                    ·
                     rw [if_neg c91] at H
                     exact absurd H (by simp)
               ·
                rw [if_neg c68] at H
                exact absurd H (by simp)
              ·
               rw [if_neg c67] at H
               exact absurd H (by simp)
             ·
              rw [if_neg c66] at H
              have c66b0 : decide (x216_3 < (t398.length : Int)) = false := decide_eq_false c66
              clear c66
              have H' := Aside0.mk H
              clear H
              go_wp2
              go_meet
              case rel => exact ⟨_, H', ⟨by have := HJ11.out; have := HJ56.out; have := HK3.out; first | omega | exact Nat.le_refl _⟩, ⟨bk_⟩, ⟨bw_⟩⟩
       ·
        replace c56 := Bool.eq_false_iff.mpr c56
        subst c56
        rw [if_neg (show ¬ (false = true) by decide)] at H
        have H' := Aside0.mk H
        clear H
        go_wp2
        go_meet
        case rel => exact ⟨_, H', ⟨by have := HJ11.out; first | omega | exact Nat.le_refl _⟩, ⟨bk_⟩, ⟨bw_⟩⟩
      case rest => as_aux_lemma =>
       clear HC55
       (try clear c1)
       obtain ⟨kq, HA, HJ54, BK397, HB⟩ := hcut
       cases kq with
       | zero => exact absurd HA.out (by simp [laws_FnDogsTurn.j5])
       | succ kj54 =>
        have H := HA.out
        clear HA
        simp only [laws_FnDogsTurn.j5] at H
        replace H := Option.bind_eq_some_iff.mp H
        obtain ⟨⟨t452, t453, t454, t455⟩, A1110, H⟩ := H
        (try dsimp only at H)
        have A111 := Aside0.mk A1110
        clear A1110
        replace H := Option.bind_eq_some_iff.mp H
        obtain ⟨⟨t457, t458, t459, t460, t461⟩, A1120, H⟩ := H
        (try dsimp only at H)
        have A112 := Aside0.mk A1120
        clear A1120
        replace H := Option.bind_eq_some_iff.mp H
        obtain ⟨⟨t462, t463, t464, t465, t466⟩, A1130, H⟩ := H
        (try dsimp only at H)
        have A113 := Aside0.mk A1130
        clear A1130
        replace H := Option.bind_eq_some_iff.mp H
        obtain ⟨⟨t467, t468, t469⟩, A1140, H⟩ := H
        (try dsimp only at H)
        have A114 := Aside0.mk A1140
        clear A1140
        replace H := Option.bind_eq_some_iff.mp H
        obtain ⟨⟨t470, t471, t472⟩, A1150, H⟩ := H
        (try dsimp only at H)
        have A115 := Aside0.mk A1150
        clear A1150
        replace H := Option.bind_eq_some_iff.mp H
        obtain ⟨⟨t473, t474, t475⟩, A1160, H⟩ := H
        (try dsimp only at H)
        have A116 := Aside0.mk A1160
        clear A1160
        replace H := Option.bind_eq_some_iff.mp H
        obtain ⟨⟨t476, t477, t478⟩, A1170, H⟩ := H
        (try dsimp only at H)
        have A117 := Aside0.mk A1170
        clear A1170
        replace H := Option.bind_eq_some_iff.mp H
        obtain ⟨⟨t479, t480, t481, t482, t483⟩, A1180, H⟩ := H
        (try dsimp only at H)
        have A118 := Aside0.mk A1180
        clear A1180
        replace H := Option.bind_eq_some_iff.mp H
        obtain ⟨⟨t484, t485, t486, t487, t488⟩, A1190, H⟩ := H
        (try dsimp only at H)
        have A119 := Aside0.mk A1190
        clear A1190
        replace H := Option.bind_eq_some_iff.mp H
        obtain ⟨⟨t489, t490, t491, t492, t493⟩, A1200, H⟩ := H
        (try dsimp only at H)
        have A120 := Aside0.mk A1200
        clear A1200
        replace H := Option.bind_eq_some_iff.mp H
        obtain ⟨⟨t495, t496, t497, t498, t499⟩, A1210, H⟩ := H
        (try dsimp only at H)
        have A121 := Aside0.mk A1210
        clear A1210
        replace H := Option.bind_eq_some_iff.mp H
        obtain ⟨⟨t501, t502⟩, A1220, H⟩ := H
        (try dsimp only at H)
        have A122 := Aside0.mk A1220
        clear A1220
        replace H := Option.bind_eq_some_iff.mp H
        obtain ⟨⟨t503, t504⟩, A1230, H⟩ := H
        (try dsimp only at H)
        have A123 := Aside0.mk A1230
        clear A1230
        have HC124 := Aside0.mk H
        clear H
        go_upto_region 42 with (first | ((with_reducible refine gate_callee (f := 16) rfl ?_); refine goesL_ (some 376) rfl rfl Tryz.func16 (by kernel_rfl) rfl #[.slice A1 l1.length c1] rfl (by (try simp only [List.map_toArray, List.map_cons, List.map_nil]); first | done | rfl | (simp only [List.length_drop, List.length_take]; rfl)) ?_; (with_reducible refine (spec_DrawRatioOfTurns.calls _ _ l1 t452 t453 t454 t455 _ ?side1 ?side2 A111.out).mono ?_); (case side1 => repeat (first | exact (Kd.C_below HR1.out HB.out) | (with_reducible refine Kd.C_alloc ?_ _) | (with_reducible refine Kd.C_drewN ?_ _) | (with_reducible refine Kd.C_drew ?_))); (case side2 => exact HC1.out); rintro e w125 ⟨rfl, hb⟩; refine ⟨_, rfl, ?_⟩; have n0_ := Aside0.mk (blk_below (g := gb397) (o := .cells #[.int .i64 t392, .int .i64 t393, .int .i64 t394, .int .i64 t395] 25 (0, 0)) bk_ hb); have n1_ := Aside0.mk (below_step bw_ hb); clear BK397; clear HB; have BK397 := n0_; have HB := n1_; clear n0_ n1_; (try clear hb); (try clear hb2); (try clear hk); (try clear hi)) | ((with_reducible refine gate_dst (N := 30) rfl ?_); refine box_event ?hg (N := 30) ?hd (cs := #[.int .i64 0, .int .i64 0, .int .i64 0, .int .i64 0]) (t := 25) ?hr ?_; (case hd => rfl); (case hg => rfl); (case hr => first | (go_simp; done) | (go_simp; rfl)); intro gb456 hg w126 hbox hb; have n0_ := Aside0.mk (blk_below (g := gb397) (o := .cells #[.int .i64 t392, .int .i64 t393, .int .i64 t394, .int .i64 t395] 25 (0, 0)) bk_ hb); have n1_ := Aside0.mk (below_step bw_ hb); have n2_ := Aside0.mk (hbox); have n3_ := Aside0.mk ((by rw [hg]; exact (below_size bw_) : w.heap.size ≤ gb456)); have n4_ := Aside0.mk ((by rw [hg]; exact (below_size bw_) : w.heap.size ≤ gb456)); have n5_ := Aside0.mk ((by rw [hg]; exact Nat.ne_of_lt (blk_lt (g := gb397) (o := .cells #[.int .i64 t392, .int .i64 t393, .int .i64 t394, .int .i64 t395] 25 (0, 0)) bk_) : gb397 ≠ gb456)); have n6_ := Aside0.mk ((by rw [hg]; exact Nat.ne_of_gt (blk_lt (g := gb397) (o := .cells #[.int .i64 t392, .int .i64 t393, .int .i64 t394, .int .i64 t395] 25 (0, 0)) bk_) : gb456 ≠ gb397)); clear BK397; clear HB; have BK397 := n0_; have HB := n1_; have BK456 := n2_; have GW456 := n3_; have GE456 := n4_; have NB397_456 := n5_; have NB456_397 := n6_; clear n0_ n1_ n2_ n3_ n4_ n5_ n6_; clear hb hbox hg; have hnb127 := NB456_397.out; have hnc127 := NB397_456.out; have hcz128_0 : w126.cell? ⟨gb456, 0, none⟩ = some (.int .i64 0) := (blk_cell BK456.out 0).trans rfl; have hcz128_1 : w126.cell? ⟨gb456, 1, none⟩ = some (.int .i64 0) := (blk_cell BK456.out 1).trans rfl; have hcz128_2 : w126.cell? ⟨gb456, 2, none⟩ = some (.int .i64 0) := (blk_cell BK456.out 2).trans rfl; have hcz128_3 : w126.cell? ⟨gb456, 3, none⟩ = some (.int .i64 0) := (blk_cell BK456.out 3).trans rfl; have hfz128_0 := blk_frozen BK456.out 0; have hfz128_1 := blk_frozen BK456.out 1; have hfz128_2 := blk_frozen BK456.out 2; have hfz128_3 := blk_frozen BK456.out 3) | ((with_reducible refine gate_callee (f := 17) rfl ?_); refine goesL_ (some 379) rfl rfl Tryz.func17 (by kernel_rfl) rfl #[.agg #[.int .i64 t452, .int .i64 t453, .int .i64 t454, .int .i64 t455]] rfl (by (try simp only [List.map_toArray, List.map_cons, List.map_nil]); first | done | rfl | (simp only [List.length_drop, List.length_take]; rfl)) ?_; (with_reducible refine (impl_RatioOfTurns.calls kj54 t452 t453 t454 t455 t457 t458 t459 t460 t461 _ A112.out).mono ?_); rintro e w129 ⟨rfl, hb⟩; refine ⟨_, rfl, ?_⟩; have n0_ := Aside0.mk (blk_below (g := gb397) (o := .cells #[.int .i64 t392, .int .i64 t393, .int .i64 t394, .int .i64 t395] 25 (0, 0)) (by (with_reducible repeat (first | refine blk_drewN ?_ _ | refine blk_drew ?_ | refine blk_alloc ?_ _)); refine blk_far ?_ NB397_456.out _; (with_reducible repeat (first | refine blk_drewN ?_ _ | refine blk_drew ?_ | refine blk_alloc ?_ _)); refine blk_far ?_ NB397_456.out _; (with_reducible repeat (first | refine blk_drewN ?_ _ | refine blk_drew ?_ | refine blk_alloc ?_ _)); refine blk_far ?_ NB397_456.out _; (with_reducible repeat (first | refine blk_drewN ?_ _ | refine blk_drew ?_ | refine blk_alloc ?_ _)); refine blk_far ?_ NB397_456.out _; (with_reducible repeat (first | refine blk_drewN ?_ _ | refine blk_drew ?_ | refine blk_alloc ?_ _)); exact BK397.out) hb); have n1_ := Aside0.mk (blk_below (g := gb456) (o := .cells #[.int .i64 t452, .int .i64 t453, .int .i64 t454, .int .i64 t455] 25 (0, 0)) (by (with_reducible repeat (first | refine blk_drewN ?_ _ | refine blk_drew ?_ | refine blk_alloc ?_ _)); refine blk_put (cs := #[.int .i64 t452, .int .i64 t453, .int .i64 t454, .int .i64 0]) ?_ 3 _ rfl; (with_reducible repeat (first | refine blk_drewN ?_ _ | refine blk_drew ?_ | refine blk_alloc ?_ _)); refine blk_put (cs := #[.int .i64 t452, .int .i64 t453, .int .i64 0, .int .i64 0]) ?_ 2 _ rfl; (with_reducible repeat (first | refine blk_drewN ?_ _ | refine blk_drew ?_ | refine blk_alloc ?_ _)); refine blk_put (cs := #[.int .i64 t452, .int .i64 0, .int .i64 0, .int .i64 0]) ?_ 1 _ rfl; (with_reducible repeat (first | refine blk_drewN ?_ _ | refine blk_drew ?_ | refine blk_alloc ?_ _)); refine blk_put (cs := #[.int .i64 0, .int .i64 0, .int .i64 0, .int .i64 0]) ?_ 0 _ rfl; (with_reducible repeat (first | refine blk_drewN ?_ _ | refine blk_drew ?_ | refine blk_alloc ?_ _)); exact BK456.out) hb); have n2_ := Aside0.mk (below_step bw_ hb); clear BK397; clear BK456; clear HB; have BK397 := n0_; have BK456 := n1_; have HB := n2_; clear n0_ n1_ n2_; (try clear hb); (try clear hb2); (try clear hk); (try clear hi); have hcz130_0 : w129.cell? ⟨gb456, 0, none⟩ = some (.int .i64 t452) := (blk_cell BK456.out 0).trans rfl; have hcz130_1 : w129.cell? ⟨gb456, 1, none⟩ = some (.int .i64 t453) := (blk_cell BK456.out 1).trans rfl; have hcz130_2 : w129.cell? ⟨gb456, 2, none⟩ = some (.int .i64 t454) := (blk_cell BK456.out 2).trans rfl; have hcz130_3 : w129.cell? ⟨gb456, 3, none⟩ = some (.int .i64 t455) := (blk_cell BK456.out 3).trans rfl; have hfz130_0 := blk_frozen BK456.out 0; have hfz130_1 := blk_frozen BK456.out 1; have hfz130_2 := blk_frozen BK456.out 2; have hfz130_3 := blk_frozen BK456.out 3) | ((with_reducible refine gate_callee (f := 18) rfl ?_); refine goesL_ (some 387) rfl rfl Tryz.func18 (by kernel_rfl) rfl #[.agg #[.int .i64 t452, .int .i64 t453, .int .i64 t454, .int .i64 t455]] rfl (by (try simp only [List.map_toArray, List.map_cons, List.map_nil]); first | done | rfl | (simp only [List.length_drop, List.length_take]; rfl)) ?_; (with_reducible refine (spec_RatioOfTurns.calls kj54 t452 t453 t454 t455 t462 t463 t464 t465 t466 _ A113.out).mono ?_); rintro e w131 ⟨rfl, hb⟩; refine ⟨_, rfl, ?_⟩; have n0_ := Aside0.mk (blk_below (g := gb397) (o := .cells #[.int .i64 t392, .int .i64 t393, .int .i64 t394, .int .i64 t395] 25 (0, 0)) bk_ hb); have n1_ := Aside0.mk (blk_below (g := gb456) (o := .cells #[.int .i64 t452, .int .i64 t453, .int .i64 t454, .int .i64 t455] 25 (0, 0)) bk_ hb); have n2_ := Aside0.mk (below_step bw_ hb); clear BK397; clear BK456; clear HB; have BK397 := n0_; have BK456 := n1_; have HB := n2_; clear n0_ n1_ n2_; (try clear hb); (try clear hb2); (try clear hk); (try clear hi); have hcz132_0 : w131.cell? ⟨gb456, 0, none⟩ = some (.int .i64 t452) := (blk_cell BK456.out 0).trans rfl; have hcz132_1 : w131.cell? ⟨gb456, 1, none⟩ = some (.int .i64 t453) := (blk_cell BK456.out 1).trans rfl; have hcz132_2 : w131.cell? ⟨gb456, 2, none⟩ = some (.int .i64 t454) := (blk_cell BK456.out 2).trans rfl; have hcz132_3 : w131.cell? ⟨gb456, 3, none⟩ = some (.int .i64 t455) := (blk_cell BK456.out 3).trans rfl; have hfz132_0 := blk_frozen BK456.out 0; have hfz132_1 := blk_frozen BK456.out 1; have hfz132_2 := blk_frozen BK456.out 2; have hfz132_3 := blk_frozen BK456.out 3) | ((with_reducible refine gate_callee (f := 19) rfl ?_); refine goesL_ (some 395) rfl rfl Tryz.func19 (by kernel_rfl) rfl #[.agg #[.int .i64 t452, .int .i64 t453, .int .i64 t454, .int .i64 t455]] rfl (by (try simp only [List.map_toArray, List.map_cons, List.map_nil]); first | done | rfl | (simp only [List.length_drop, List.length_take]; rfl)) ?_; (with_reducible refine (impl_TimeToMeet.calls kj54 t452 t453 t454 t455 t467 t468 t469 _ A114.out).mono ?_); rintro e w133 ⟨rfl, hb⟩; refine ⟨_, rfl, ?_⟩; have n0_ := Aside0.mk (blk_below (g := gb397) (o := .cells #[.int .i64 t392, .int .i64 t393, .int .i64 t394, .int .i64 t395] 25 (0, 0)) bk_ hb); have n1_ := Aside0.mk (blk_below (g := gb456) (o := .cells #[.int .i64 t452, .int .i64 t453, .int .i64 t454, .int .i64 t455] 25 (0, 0)) bk_ hb); have n2_ := Aside0.mk (below_step bw_ hb); clear BK397; clear BK456; clear HB; have BK397 := n0_; have BK456 := n1_; have HB := n2_; clear n0_ n1_ n2_; (try clear hb); (try clear hb2); (try clear hk); (try clear hi); have hcz134_0 : w133.cell? ⟨gb456, 0, none⟩ = some (.int .i64 t452) := (blk_cell BK456.out 0).trans rfl; have hcz134_1 : w133.cell? ⟨gb456, 1, none⟩ = some (.int .i64 t453) := (blk_cell BK456.out 1).trans rfl; have hcz134_2 : w133.cell? ⟨gb456, 2, none⟩ = some (.int .i64 t454) := (blk_cell BK456.out 2).trans rfl; have hcz134_3 : w133.cell? ⟨gb456, 3, none⟩ = some (.int .i64 t455) := (blk_cell BK456.out 3).trans rfl; have hfz134_0 := blk_frozen BK456.out 0; have hfz134_1 := blk_frozen BK456.out 1; have hfz134_2 := blk_frozen BK456.out 2; have hfz134_3 := blk_frozen BK456.out 3) | ((with_reducible refine gate_callee (f := 20) rfl ?_); refine goesL_ (some 401) rfl rfl Tryz.func20 (by kernel_rfl) rfl #[.agg #[.int .i64 t452, .int .i64 t453, .int .i64 t454, .int .i64 t455]] rfl (by (try simp only [List.map_toArray, List.map_cons, List.map_nil]); first | done | rfl | (simp only [List.length_drop, List.length_take]; rfl)) ?_; (with_reducible refine (spec_TimeToMeet.calls kj54 t452 t453 t454 t455 t470 t471 t472 _ A115.out).mono ?_); rintro e w135 ⟨rfl, hb⟩; refine ⟨_, rfl, ?_⟩; have n0_ := Aside0.mk (blk_below (g := gb397) (o := .cells #[.int .i64 t392, .int .i64 t393, .int .i64 t394, .int .i64 t395] 25 (0, 0)) bk_ hb); have n1_ := Aside0.mk (blk_below (g := gb456) (o := .cells #[.int .i64 t452, .int .i64 t453, .int .i64 t454, .int .i64 t455] 25 (0, 0)) bk_ hb); have n2_ := Aside0.mk (below_step bw_ hb); clear BK397; clear BK456; clear HB; have BK397 := n0_; have BK456 := n1_; have HB := n2_; clear n0_ n1_ n2_; (try clear hb); (try clear hb2); (try clear hk); (try clear hi); have hcz136_0 : w135.cell? ⟨gb456, 0, none⟩ = some (.int .i64 t452) := (blk_cell BK456.out 0).trans rfl; have hcz136_1 : w135.cell? ⟨gb456, 1, none⟩ = some (.int .i64 t453) := (blk_cell BK456.out 1).trans rfl; have hcz136_2 : w135.cell? ⟨gb456, 2, none⟩ = some (.int .i64 t454) := (blk_cell BK456.out 2).trans rfl; have hcz136_3 : w135.cell? ⟨gb456, 3, none⟩ = some (.int .i64 t455) := (blk_cell BK456.out 3).trans rfl; have hfz136_0 := blk_frozen BK456.out 0; have hfz136_1 := blk_frozen BK456.out 1; have hfz136_2 := blk_frozen BK456.out 2; have hfz136_3 := blk_frozen BK456.out 3) | ((with_reducible refine gate_callee (f := 21) rfl ?_); refine goesL_ (some 407) rfl rfl Tryz.func21 (by kernel_rfl) rfl #[.agg #[.int .i64 t452, .int .i64 t453, .int .i64 t454, .int .i64 t455]] rfl (by (try simp only [List.map_toArray, List.map_cons, List.map_nil]); first | done | rfl | (simp only [List.length_drop, List.length_take]; rfl)) ?_; (with_reducible refine (impl_DogDistance.calls kj54 t452 t453 t454 t455 t473 t474 t475 _ A116.out).mono ?_); rintro e w137 ⟨rfl, hb⟩; refine ⟨_, rfl, ?_⟩; have n0_ := Aside0.mk (blk_below (g := gb397) (o := .cells #[.int .i64 t392, .int .i64 t393, .int .i64 t394, .int .i64 t395] 25 (0, 0)) bk_ hb); have n1_ := Aside0.mk (blk_below (g := gb456) (o := .cells #[.int .i64 t452, .int .i64 t453, .int .i64 t454, .int .i64 t455] 25 (0, 0)) bk_ hb); have n2_ := Aside0.mk (below_step bw_ hb); clear BK397; clear BK456; clear HB; have BK397 := n0_; have BK456 := n1_; have HB := n2_; clear n0_ n1_ n2_; (try clear hb); (try clear hb2); (try clear hk); (try clear hi); have hcz138_0 : w137.cell? ⟨gb456, 0, none⟩ = some (.int .i64 t452) := (blk_cell BK456.out 0).trans rfl; have hcz138_1 : w137.cell? ⟨gb456, 1, none⟩ = some (.int .i64 t453) := (blk_cell BK456.out 1).trans rfl; have hcz138_2 : w137.cell? ⟨gb456, 2, none⟩ = some (.int .i64 t454) := (blk_cell BK456.out 2).trans rfl; have hcz138_3 : w137.cell? ⟨gb456, 3, none⟩ = some (.int .i64 t455) := (blk_cell BK456.out 3).trans rfl; have hfz138_0 := blk_frozen BK456.out 0; have hfz138_1 := blk_frozen BK456.out 1; have hfz138_2 := blk_frozen BK456.out 2; have hfz138_3 := blk_frozen BK456.out 3) | ((with_reducible refine gate_callee (f := 22) rfl ?_); refine goesL_ (some 413) rfl rfl Tryz.func22 (by kernel_rfl) rfl #[.agg #[.int .i64 t452, .int .i64 t453, .int .i64 t454, .int .i64 t455]] rfl (by (try simp only [List.map_toArray, List.map_cons, List.map_nil]); first | done | rfl | (simp only [List.length_drop, List.length_take]; rfl)) ?_; (with_reducible refine (spec_DogDistance.calls kj54 t452 t453 t454 t455 t476 t477 t478 _ A117.out).mono ?_); rintro e w139 ⟨rfl, hb⟩; refine ⟨_, rfl, ?_⟩; have n0_ := Aside0.mk (blk_below (g := gb397) (o := .cells #[.int .i64 t392, .int .i64 t393, .int .i64 t394, .int .i64 t395] 25 (0, 0)) bk_ hb); have n1_ := Aside0.mk (blk_below (g := gb456) (o := .cells #[.int .i64 t452, .int .i64 t453, .int .i64 t454, .int .i64 t455] 25 (0, 0)) bk_ hb); have n2_ := Aside0.mk (below_step bw_ hb); clear BK397; clear BK456; clear HB; have BK397 := n0_; have BK456 := n1_; have HB := n2_; clear n0_ n1_ n2_; (try clear hb); (try clear hb2); (try clear hk); (try clear hi); have hcz140_0 : w139.cell? ⟨gb456, 0, none⟩ = some (.int .i64 t452) := (blk_cell BK456.out 0).trans rfl; have hcz140_1 : w139.cell? ⟨gb456, 1, none⟩ = some (.int .i64 t453) := (blk_cell BK456.out 1).trans rfl; have hcz140_2 : w139.cell? ⟨gb456, 2, none⟩ = some (.int .i64 t454) := (blk_cell BK456.out 2).trans rfl; have hcz140_3 : w139.cell? ⟨gb456, 3, none⟩ = some (.int .i64 t455) := (blk_cell BK456.out 3).trans rfl; have hfz140_0 := blk_frozen BK456.out 0; have hfz140_1 := blk_frozen BK456.out 1; have hfz140_2 := blk_frozen BK456.out 2; have hfz140_3 := blk_frozen BK456.out 3) | ((with_reducible refine gate_callee (f := 23) rfl ?_); refine goesL_ (some 419) rfl rfl Tryz.func23 (by kernel_rfl) rfl #[.agg #[.int .i64 t452, .int .i64 t453, .int .i64 t454, .int .i64 t455]] rfl (by (try simp only [List.map_toArray, List.map_cons, List.map_nil]); first | done | rfl | (simp only [List.length_drop, List.length_take]; rfl)) ?_; (with_reducible refine (impl_DistanceOf.calls kj54 t452 t453 t454 t455 t479 t480 t481 t482 t483 _ A118.out).mono ?_); rintro e w141 ⟨rfl, hb⟩; refine ⟨_, rfl, ?_⟩; have n0_ := Aside0.mk (blk_below (g := gb397) (o := .cells #[.int .i64 t392, .int .i64 t393, .int .i64 t394, .int .i64 t395] 25 (0, 0)) bk_ hb); have n1_ := Aside0.mk (blk_below (g := gb456) (o := .cells #[.int .i64 t452, .int .i64 t453, .int .i64 t454, .int .i64 t455] 25 (0, 0)) bk_ hb); have n2_ := Aside0.mk (below_step bw_ hb); clear BK397; clear BK456; clear HB; have BK397 := n0_; have BK456 := n1_; have HB := n2_; clear n0_ n1_ n2_; (try clear hb); (try clear hb2); (try clear hk); (try clear hi); have hcz142_0 : w141.cell? ⟨gb456, 0, none⟩ = some (.int .i64 t452) := (blk_cell BK456.out 0).trans rfl; have hcz142_1 : w141.cell? ⟨gb456, 1, none⟩ = some (.int .i64 t453) := (blk_cell BK456.out 1).trans rfl; have hcz142_2 : w141.cell? ⟨gb456, 2, none⟩ = some (.int .i64 t454) := (blk_cell BK456.out 2).trans rfl; have hcz142_3 : w141.cell? ⟨gb456, 3, none⟩ = some (.int .i64 t455) := (blk_cell BK456.out 3).trans rfl; have hfz142_0 := blk_frozen BK456.out 0; have hfz142_1 := blk_frozen BK456.out 1; have hfz142_2 := blk_frozen BK456.out 2; have hfz142_3 := blk_frozen BK456.out 3) | ((with_reducible refine gate_callee (f := 24) rfl ?_); refine goesL_ (some 427) rfl rfl Tryz.func24 (by kernel_rfl) rfl #[.agg #[.int .i64 t452, .int .i64 t453, .int .i64 t454, .int .i64 t455]] rfl (by (try simp only [List.map_toArray, List.map_cons, List.map_nil]); first | done | rfl | (simp only [List.length_drop, List.length_take]; rfl)) ?_; (with_reducible refine (spec_DistanceOf.calls kj54 t452 t453 t454 t455 t484 t485 t486 t487 t488 _ A119.out).mono ?_); rintro e w143 ⟨rfl, hb⟩; refine ⟨_, rfl, ?_⟩; have n0_ := Aside0.mk (blk_below (g := gb397) (o := .cells #[.int .i64 t392, .int .i64 t393, .int .i64 t394, .int .i64 t395] 25 (0, 0)) bk_ hb); have n1_ := Aside0.mk (blk_below (g := gb456) (o := .cells #[.int .i64 t452, .int .i64 t453, .int .i64 t454, .int .i64 t455] 25 (0, 0)) bk_ hb); have n2_ := Aside0.mk (below_step bw_ hb); clear BK397; clear BK456; clear HB; have BK397 := n0_; have BK456 := n1_; have HB := n2_; clear n0_ n1_ n2_; (try clear hb); (try clear hb2); (try clear hk); (try clear hi); have hcz144_0 : w143.cell? ⟨gb456, 0, none⟩ = some (.int .i64 t452) := (blk_cell BK456.out 0).trans rfl; have hcz144_1 : w143.cell? ⟨gb456, 1, none⟩ = some (.int .i64 t453) := (blk_cell BK456.out 1).trans rfl; have hcz144_2 : w143.cell? ⟨gb456, 2, none⟩ = some (.int .i64 t454) := (blk_cell BK456.out 2).trans rfl; have hcz144_3 : w143.cell? ⟨gb456, 3, none⟩ = some (.int .i64 t455) := (blk_cell BK456.out 3).trans rfl; have hfz144_0 := blk_frozen BK456.out 0; have hfz144_1 := blk_frozen BK456.out 1; have hfz144_2 := blk_frozen BK456.out 2; have hfz144_3 := blk_frozen BK456.out 3) | ((with_reducible refine gate_callee (f := 25) rfl ?_); refine goesL_ (some 435) rfl rfl Tryz.func25 (by kernel_rfl) rfl #[.agg #[.int .i64 t452, .int .i64 t453, .int .i64 t454, .int .i64 t455]] rfl (by (try simp only [List.map_toArray, List.map_cons, List.map_nil]); first | done | rfl | (simp only [List.length_drop, List.length_take]; rfl)) ?_; (with_reducible refine (impl_TurnChase.calls t452 t453 t454 t455 t489 t490 t491 t492 t493 _ A120.out).mono ?_); rintro e w145 ⟨rfl, hb⟩; refine ⟨_, rfl, ?_⟩; have n0_ := Aside0.mk (blk_below (g := gb397) (o := .cells #[.int .i64 t392, .int .i64 t393, .int .i64 t394, .int .i64 t395] 25 (0, 0)) bk_ hb); have n1_ := Aside0.mk (blk_below (g := gb456) (o := .cells #[.int .i64 t452, .int .i64 t453, .int .i64 t454, .int .i64 t455] 25 (0, 0)) bk_ hb); have n2_ := Aside0.mk (below_step bw_ hb); clear BK397; clear BK456; clear HB; have BK397 := n0_; have BK456 := n1_; have HB := n2_; clear n0_ n1_ n2_; (try clear hb); (try clear hb2); (try clear hk); (try clear hi)) | ((with_reducible refine gate_dst (N := 63) rfl ?_); refine box_event ?hg (N := 63) ?hd (cs := #[.int .i64 0, .int .i64 0, .int .i64 0, .int .i64 0]) (t := 25) ?hr ?_; (case hd => rfl); (case hg => rfl); (case hr => first | (go_simp; done) | (go_simp; rfl)); intro gb494 hg w146 hbox hb; have n0_ := Aside0.mk (blk_below (g := gb397) (o := .cells #[.int .i64 t392, .int .i64 t393, .int .i64 t394, .int .i64 t395] 25 (0, 0)) bk_ hb); have n1_ := Aside0.mk (blk_below (g := gb456) (o := .cells #[.int .i64 t452, .int .i64 t453, .int .i64 t454, .int .i64 t455] 25 (0, 0)) bk_ hb); have n2_ := Aside0.mk (below_step bw_ hb); have n3_ := Aside0.mk (hbox); have n4_ := Aside0.mk ((by rw [hg]; exact (below_size bw_) : w.heap.size ≤ gb494)); have n5_ := Aside0.mk ((by rw [hg]; exact (below_size bw_) : w.heap.size ≤ gb494)); have n6_ := Aside0.mk ((by rw [hg]; exact Nat.ne_of_lt (blk_lt (g := gb397) (o := .cells #[.int .i64 t392, .int .i64 t393, .int .i64 t394, .int .i64 t395] 25 (0, 0)) bk_) : gb397 ≠ gb494)); have n7_ := Aside0.mk ((by rw [hg]; exact Nat.ne_of_gt (blk_lt (g := gb397) (o := .cells #[.int .i64 t392, .int .i64 t393, .int .i64 t394, .int .i64 t395] 25 (0, 0)) bk_) : gb494 ≠ gb397)); have n8_ := Aside0.mk ((by rw [hg]; exact Nat.ne_of_lt (blk_lt (g := gb456) (o := .cells #[.int .i64 t452, .int .i64 t453, .int .i64 t454, .int .i64 t455] 25 (0, 0)) bk_) : gb456 ≠ gb494)); have n9_ := Aside0.mk ((by rw [hg]; exact Nat.ne_of_gt (blk_lt (g := gb456) (o := .cells #[.int .i64 t452, .int .i64 t453, .int .i64 t454, .int .i64 t455] 25 (0, 0)) bk_) : gb494 ≠ gb456)); clear BK397; clear BK456; clear HB; have BK397 := n0_; have BK456 := n1_; have HB := n2_; have BK494 := n3_; have GW494 := n4_; have GE494 := n5_; have NB397_494 := n6_; have NB494_397 := n7_; have NB456_494 := n8_; have NB494_456 := n9_; clear n0_ n1_ n2_ n3_ n4_ n5_ n6_ n7_ n8_ n9_; clear hb hbox hg; have hnb147 := NB494_397.out; have hnc147 := NB397_494.out; have hnb148 := NB494_456.out; have hnc148 := NB456_494.out; have hcz149_0 : w146.cell? ⟨gb494, 0, none⟩ = some (.int .i64 0) := (blk_cell BK494.out 0).trans rfl; have hcz149_1 : w146.cell? ⟨gb494, 1, none⟩ = some (.int .i64 0) := (blk_cell BK494.out 1).trans rfl; have hcz149_2 : w146.cell? ⟨gb494, 2, none⟩ = some (.int .i64 0) := (blk_cell BK494.out 2).trans rfl; have hcz149_3 : w146.cell? ⟨gb494, 3, none⟩ = some (.int .i64 0) := (blk_cell BK494.out 3).trans rfl; have hfz149_0 := blk_frozen BK494.out 0; have hfz149_1 := blk_frozen BK494.out 1; have hfz149_2 := blk_frozen BK494.out 2; have hfz149_3 := blk_frozen BK494.out 3; have hcz150_0 : w146.cell? ⟨gb456, 0, none⟩ = some (.int .i64 t452) := (blk_cell BK456.out 0).trans rfl; have hcz150_1 : w146.cell? ⟨gb456, 1, none⟩ = some (.int .i64 t453) := (blk_cell BK456.out 1).trans rfl; have hcz150_2 : w146.cell? ⟨gb456, 2, none⟩ = some (.int .i64 t454) := (blk_cell BK456.out 2).trans rfl; have hcz150_3 : w146.cell? ⟨gb456, 3, none⟩ = some (.int .i64 t455) := (blk_cell BK456.out 3).trans rfl; have hfz150_0 := blk_frozen BK456.out 0; have hfz150_1 := blk_frozen BK456.out 1; have hfz150_2 := blk_frozen BK456.out 2; have hfz150_3 := blk_frozen BK456.out 3) | ((with_reducible refine gate_callee (f := 26) rfl ?_); refine goesL_ (some 440) rfl rfl Tryz.func26 (by kernel_rfl) rfl #[.agg #[.int .i64 t452, .int .i64 t453, .int .i64 t454, .int .i64 t455]] rfl (by (try simp only [List.map_toArray, List.map_cons, List.map_nil]); first | done | rfl | (simp only [List.length_drop, List.length_take]; rfl)) ?_; (with_reducible refine (spec_TurnChase.calls t452 t453 t454 t455 t495 t496 t497 t498 t499 _ A121.out).mono ?_); rintro e w151 ⟨rfl, hb⟩; refine ⟨_, rfl, ?_⟩; have n0_ := Aside0.mk (blk_below (g := gb397) (o := .cells #[.int .i64 t392, .int .i64 t393, .int .i64 t394, .int .i64 t395] 25 (0, 0)) (by (with_reducible repeat (first | refine blk_drewN ?_ _ | refine blk_drew ?_ | refine blk_alloc ?_ _)); refine blk_far ?_ NB397_494.out _; (with_reducible repeat (first | refine blk_drewN ?_ _ | refine blk_drew ?_ | refine blk_alloc ?_ _)); refine blk_far ?_ NB397_494.out _; (with_reducible repeat (first | refine blk_drewN ?_ _ | refine blk_drew ?_ | refine blk_alloc ?_ _)); refine blk_far ?_ NB397_494.out _; (with_reducible repeat (first | refine blk_drewN ?_ _ | refine blk_drew ?_ | refine blk_alloc ?_ _)); refine blk_far ?_ NB397_494.out _; (with_reducible repeat (first | refine blk_drewN ?_ _ | refine blk_drew ?_ | refine blk_alloc ?_ _)); exact BK397.out) hb); have n1_ := Aside0.mk (blk_below (g := gb456) (o := .cells #[.int .i64 t452, .int .i64 t453, .int .i64 t454, .int .i64 t455] 25 (0, 0)) (by (with_reducible repeat (first | refine blk_drewN ?_ _ | refine blk_drew ?_ | refine blk_alloc ?_ _)); refine blk_far ?_ NB456_494.out _; (with_reducible repeat (first | refine blk_drewN ?_ _ | refine blk_drew ?_ | refine blk_alloc ?_ _)); refine blk_far ?_ NB456_494.out _; (with_reducible repeat (first | refine blk_drewN ?_ _ | refine blk_drew ?_ | refine blk_alloc ?_ _)); refine blk_far ?_ NB456_494.out _; (with_reducible repeat (first | refine blk_drewN ?_ _ | refine blk_drew ?_ | refine blk_alloc ?_ _)); refine blk_far ?_ NB456_494.out _; (with_reducible repeat (first | refine blk_drewN ?_ _ | refine blk_drew ?_ | refine blk_alloc ?_ _)); exact BK456.out) hb); have n2_ := Aside0.mk (blk_below (g := gb494) (o := .cells #[.int .i64 t489, .int .i64 t490, .int .i64 t491, .int .i64 t492] 25 (0, 0)) (by (with_reducible repeat (first | refine blk_drewN ?_ _ | refine blk_drew ?_ | refine blk_alloc ?_ _)); refine blk_put (cs := #[.int .i64 t489, .int .i64 t490, .int .i64 t491, .int .i64 0]) ?_ 3 _ rfl; (with_reducible repeat (first | refine blk_drewN ?_ _ | refine blk_drew ?_ | refine blk_alloc ?_ _)); refine blk_put (cs := #[.int .i64 t489, .int .i64 t490, .int .i64 0, .int .i64 0]) ?_ 2 _ rfl; (with_reducible repeat (first | refine blk_drewN ?_ _ | refine blk_drew ?_ | refine blk_alloc ?_ _)); refine blk_put (cs := #[.int .i64 t489, .int .i64 0, .int .i64 0, .int .i64 0]) ?_ 1 _ rfl; (with_reducible repeat (first | refine blk_drewN ?_ _ | refine blk_drew ?_ | refine blk_alloc ?_ _)); refine blk_put (cs := #[.int .i64 0, .int .i64 0, .int .i64 0, .int .i64 0]) ?_ 0 _ rfl; (with_reducible repeat (first | refine blk_drewN ?_ _ | refine blk_drew ?_ | refine blk_alloc ?_ _)); exact BK494.out) hb); have n3_ := Aside0.mk (below_step bw_ hb); clear BK397; clear BK456; clear BK494; clear HB; have BK397 := n0_; have BK456 := n1_; have BK494 := n2_; have HB := n3_; clear n0_ n1_ n2_ n3_; (try clear hb); (try clear hb2); (try clear hk); (try clear hi)) | ((with_reducible refine gate_dst (N := 65) rfl ?_); refine box_event ?hg (N := 65) ?hd (cs := #[.int .i64 0, .int .i64 0, .int .i64 0, .int .i64 0]) (t := 25) ?hr ?_; (case hd => rfl); (case hg => rfl); (case hr => first | (go_simp; done) | (go_simp; rfl)); intro gb500 hg w152 hbox hb; have n0_ := Aside0.mk (blk_below (g := gb397) (o := .cells #[.int .i64 t392, .int .i64 t393, .int .i64 t394, .int .i64 t395] 25 (0, 0)) bk_ hb); have n1_ := Aside0.mk (blk_below (g := gb456) (o := .cells #[.int .i64 t452, .int .i64 t453, .int .i64 t454, .int .i64 t455] 25 (0, 0)) bk_ hb); have n2_ := Aside0.mk (blk_below (g := gb494) (o := .cells #[.int .i64 t489, .int .i64 t490, .int .i64 t491, .int .i64 t492] 25 (0, 0)) bk_ hb); have n3_ := Aside0.mk (below_step bw_ hb); have n4_ := Aside0.mk (hbox); have n5_ := Aside0.mk ((by rw [hg]; exact (below_size bw_) : w.heap.size ≤ gb500)); have n6_ := Aside0.mk ((by rw [hg]; exact (below_size bw_) : w.heap.size ≤ gb500)); have n7_ := Aside0.mk ((by rw [hg]; exact Nat.ne_of_lt (blk_lt (g := gb397) (o := .cells #[.int .i64 t392, .int .i64 t393, .int .i64 t394, .int .i64 t395] 25 (0, 0)) bk_) : gb397 ≠ gb500)); have n8_ := Aside0.mk ((by rw [hg]; exact Nat.ne_of_gt (blk_lt (g := gb397) (o := .cells #[.int .i64 t392, .int .i64 t393, .int .i64 t394, .int .i64 t395] 25 (0, 0)) bk_) : gb500 ≠ gb397)); have n9_ := Aside0.mk ((by rw [hg]; exact Nat.ne_of_lt (blk_lt (g := gb456) (o := .cells #[.int .i64 t452, .int .i64 t453, .int .i64 t454, .int .i64 t455] 25 (0, 0)) bk_) : gb456 ≠ gb500)); have n10_ := Aside0.mk ((by rw [hg]; exact Nat.ne_of_gt (blk_lt (g := gb456) (o := .cells #[.int .i64 t452, .int .i64 t453, .int .i64 t454, .int .i64 t455] 25 (0, 0)) bk_) : gb500 ≠ gb456)); have n11_ := Aside0.mk ((by rw [hg]; exact Nat.ne_of_lt (blk_lt (g := gb494) (o := .cells #[.int .i64 t489, .int .i64 t490, .int .i64 t491, .int .i64 t492] 25 (0, 0)) bk_) : gb494 ≠ gb500)); have n12_ := Aside0.mk ((by rw [hg]; exact Nat.ne_of_gt (blk_lt (g := gb494) (o := .cells #[.int .i64 t489, .int .i64 t490, .int .i64 t491, .int .i64 t492] 25 (0, 0)) bk_) : gb500 ≠ gb494)); clear BK397; clear BK456; clear BK494; clear HB; have BK397 := n0_; have BK456 := n1_; have BK494 := n2_; have HB := n3_; have BK500 := n4_; have GW500 := n5_; have GE500 := n6_; have NB397_500 := n7_; have NB500_397 := n8_; have NB456_500 := n9_; have NB500_456 := n10_; have NB494_500 := n11_; have NB500_494 := n12_; clear n0_ n1_ n2_ n3_ n4_ n5_ n6_ n7_ n8_ n9_ n10_ n11_ n12_; clear hb hbox hg; have hnb153 := NB500_397.out; have hnc153 := NB397_500.out; have hnb154 := NB500_456.out; have hnc154 := NB456_500.out; have hnb155 := NB500_494.out; have hnc155 := NB494_500.out; have hcz156_0 : w152.cell? ⟨gb500, 0, none⟩ = some (.int .i64 0) := (blk_cell BK500.out 0).trans rfl; have hcz156_1 : w152.cell? ⟨gb500, 1, none⟩ = some (.int .i64 0) := (blk_cell BK500.out 1).trans rfl; have hcz156_2 : w152.cell? ⟨gb500, 2, none⟩ = some (.int .i64 0) := (blk_cell BK500.out 2).trans rfl; have hcz156_3 : w152.cell? ⟨gb500, 3, none⟩ = some (.int .i64 0) := (blk_cell BK500.out 3).trans rfl; have hfz156_0 := blk_frozen BK500.out 0; have hfz156_1 := blk_frozen BK500.out 1; have hfz156_2 := blk_frozen BK500.out 2; have hfz156_3 := blk_frozen BK500.out 3; have hcz157_0 : w152.cell? ⟨gb456, 0, none⟩ = some (.int .i64 t452) := (blk_cell BK456.out 0).trans rfl; have hcz157_1 : w152.cell? ⟨gb456, 1, none⟩ = some (.int .i64 t453) := (blk_cell BK456.out 1).trans rfl; have hcz157_2 : w152.cell? ⟨gb456, 2, none⟩ = some (.int .i64 t454) := (blk_cell BK456.out 2).trans rfl; have hcz157_3 : w152.cell? ⟨gb456, 3, none⟩ = some (.int .i64 t455) := (blk_cell BK456.out 3).trans rfl; have hfz157_0 := blk_frozen BK456.out 0; have hfz157_1 := blk_frozen BK456.out 1; have hfz157_2 := blk_frozen BK456.out 2; have hfz157_3 := blk_frozen BK456.out 3) | ((with_reducible refine gate_callee (f := 27) rfl ?_); refine goesL_ (some 445) rfl rfl Tryz.func27 (by kernel_rfl) rfl #[.agg #[.int .i64 t452, .int .i64 t453, .int .i64 t454, .int .i64 t455]] rfl (by (try simp only [List.map_toArray, List.map_cons, List.map_nil]); first | done | rfl | (simp only [List.length_drop, List.length_take]; rfl)) ?_; (with_reducible refine (impl_ChaseText.calls kj54 t452 t453 t454 t455 t501 t502 _ A122.out).mono ?_); rintro e w158 ⟨rfl, hb⟩; refine ⟨_, rfl, ?_⟩; have n0_ := Aside0.mk (blk_below (g := gb397) (o := .cells #[.int .i64 t392, .int .i64 t393, .int .i64 t394, .int .i64 t395] 25 (0, 0)) (by (with_reducible repeat (first | refine blk_drewN ?_ _ | refine blk_drew ?_ | refine blk_alloc ?_ _)); refine blk_far ?_ NB397_500.out _; (with_reducible repeat (first | refine blk_drewN ?_ _ | refine blk_drew ?_ | refine blk_alloc ?_ _)); refine blk_far ?_ NB397_500.out _; (with_reducible repeat (first | refine blk_drewN ?_ _ | refine blk_drew ?_ | refine blk_alloc ?_ _)); refine blk_far ?_ NB397_500.out _; (with_reducible repeat (first | refine blk_drewN ?_ _ | refine blk_drew ?_ | refine blk_alloc ?_ _)); refine blk_far ?_ NB397_500.out _; (with_reducible repeat (first | refine blk_drewN ?_ _ | refine blk_drew ?_ | refine blk_alloc ?_ _)); exact BK397.out) hb); have n1_ := Aside0.mk (blk_below (g := gb456) (o := .cells #[.int .i64 t452, .int .i64 t453, .int .i64 t454, .int .i64 t455] 25 (0, 0)) (by (with_reducible repeat (first | refine blk_drewN ?_ _ | refine blk_drew ?_ | refine blk_alloc ?_ _)); refine blk_far ?_ NB456_500.out _; (with_reducible repeat (first | refine blk_drewN ?_ _ | refine blk_drew ?_ | refine blk_alloc ?_ _)); refine blk_far ?_ NB456_500.out _; (with_reducible repeat (first | refine blk_drewN ?_ _ | refine blk_drew ?_ | refine blk_alloc ?_ _)); refine blk_far ?_ NB456_500.out _; (with_reducible repeat (first | refine blk_drewN ?_ _ | refine blk_drew ?_ | refine blk_alloc ?_ _)); refine blk_far ?_ NB456_500.out _; (with_reducible repeat (first | refine blk_drewN ?_ _ | refine blk_drew ?_ | refine blk_alloc ?_ _)); exact BK456.out) hb); have n2_ := Aside0.mk (blk_below (g := gb494) (o := .cells #[.int .i64 t489, .int .i64 t490, .int .i64 t491, .int .i64 t492] 25 (0, 0)) (by (with_reducible repeat (first | refine blk_drewN ?_ _ | refine blk_drew ?_ | refine blk_alloc ?_ _)); refine blk_far ?_ NB494_500.out _; (with_reducible repeat (first | refine blk_drewN ?_ _ | refine blk_drew ?_ | refine blk_alloc ?_ _)); refine blk_far ?_ NB494_500.out _; (with_reducible repeat (first | refine blk_drewN ?_ _ | refine blk_drew ?_ | refine blk_alloc ?_ _)); refine blk_far ?_ NB494_500.out _; (with_reducible repeat (first | refine blk_drewN ?_ _ | refine blk_drew ?_ | refine blk_alloc ?_ _)); refine blk_far ?_ NB494_500.out _; (with_reducible repeat (first | refine blk_drewN ?_ _ | refine blk_drew ?_ | refine blk_alloc ?_ _)); exact BK494.out) hb); have n3_ := Aside0.mk (blk_below (g := gb500) (o := .cells #[.int .i64 t495, .int .i64 t496, .int .i64 t497, .int .i64 t498] 25 (0, 0)) (by (with_reducible repeat (first | refine blk_drewN ?_ _ | refine blk_drew ?_ | refine blk_alloc ?_ _)); refine blk_put (cs := #[.int .i64 t495, .int .i64 t496, .int .i64 t497, .int .i64 0]) ?_ 3 _ rfl; (with_reducible repeat (first | refine blk_drewN ?_ _ | refine blk_drew ?_ | refine blk_alloc ?_ _)); refine blk_put (cs := #[.int .i64 t495, .int .i64 t496, .int .i64 0, .int .i64 0]) ?_ 2 _ rfl; (with_reducible repeat (first | refine blk_drewN ?_ _ | refine blk_drew ?_ | refine blk_alloc ?_ _)); refine blk_put (cs := #[.int .i64 t495, .int .i64 0, .int .i64 0, .int .i64 0]) ?_ 1 _ rfl; (with_reducible repeat (first | refine blk_drewN ?_ _ | refine blk_drew ?_ | refine blk_alloc ?_ _)); refine blk_put (cs := #[.int .i64 0, .int .i64 0, .int .i64 0, .int .i64 0]) ?_ 0 _ rfl; (with_reducible repeat (first | refine blk_drewN ?_ _ | refine blk_drew ?_ | refine blk_alloc ?_ _)); exact BK500.out) hb); have n4_ := Aside0.mk (below_step bw_ hb); clear BK397; clear BK456; clear BK494; clear BK500; clear HB; have BK397 := n0_; have BK456 := n1_; have BK494 := n2_; have BK500 := n3_; have HB := n4_; clear n0_ n1_ n2_ n3_ n4_; (try clear hb); (try clear hb2); (try clear hk); (try clear hi); have hcz159_0 : w158.cell? ⟨gb456, 0, none⟩ = some (.int .i64 t452) := (blk_cell BK456.out 0).trans rfl; have hcz159_1 : w158.cell? ⟨gb456, 1, none⟩ = some (.int .i64 t453) := (blk_cell BK456.out 1).trans rfl; have hcz159_2 : w158.cell? ⟨gb456, 2, none⟩ = some (.int .i64 t454) := (blk_cell BK456.out 2).trans rfl; have hcz159_3 : w158.cell? ⟨gb456, 3, none⟩ = some (.int .i64 t455) := (blk_cell BK456.out 3).trans rfl; have hfz159_0 := blk_frozen BK456.out 0; have hfz159_1 := blk_frozen BK456.out 1; have hfz159_2 := blk_frozen BK456.out 2; have hfz159_3 := blk_frozen BK456.out 3) | ((with_reducible refine gate_callee (f := 28) rfl ?_); refine goesL_ (some 450) rfl rfl Tryz.func28 (by kernel_rfl) rfl #[.agg #[.int .i64 t452, .int .i64 t453, .int .i64 t454, .int .i64 t455]] rfl (by (try simp only [List.map_toArray, List.map_cons, List.map_nil]); first | done | rfl | (simp only [List.length_drop, List.length_take]; rfl)) ?_; (with_reducible refine (spec_ChaseText.calls kj54 t452 t453 t454 t455 t503 t504 _ A123.out).mono ?_); rintro e w160 ⟨rfl, hb⟩; refine ⟨_, rfl, ?_⟩; have n0_ := Aside0.mk (blk_below (g := gb397) (o := .cells #[.int .i64 t392, .int .i64 t393, .int .i64 t394, .int .i64 t395] 25 (0, 0)) bk_ hb); have n1_ := Aside0.mk (blk_below (g := gb456) (o := .cells #[.int .i64 t452, .int .i64 t453, .int .i64 t454, .int .i64 t455] 25 (0, 0)) bk_ hb); have n2_ := Aside0.mk (blk_below (g := gb494) (o := .cells #[.int .i64 t489, .int .i64 t490, .int .i64 t491, .int .i64 t492] 25 (0, 0)) bk_ hb); have n3_ := Aside0.mk (blk_below (g := gb500) (o := .cells #[.int .i64 t495, .int .i64 t496, .int .i64 t497, .int .i64 t498] 25 (0, 0)) bk_ hb); have n4_ := Aside0.mk (below_step bw_ hb); clear BK397; clear BK456; clear BK494; clear BK500; clear HB; have BK397 := n0_; have BK456 := n1_; have BK494 := n2_; have BK500 := n3_; have HB := n4_; clear n0_ n1_ n2_ n3_ n4_; (try clear hb); (try clear hb2); (try clear hk); (try clear hi)))
        (try simp only [Act.put, List.setIfInBounds_toArray, List.set_cons_zero, List.set_cons_succ])
        go_cut [581] from 453 to 581 (fun v581 wc => ∃ (kq : Nat) (x581_123 : Bool), v581 = .bool x581_123 ∧ Aside0 (laws_FnDogsTurn.j6 kq t457 t458 t459 t460 t461 t467 t468 t473 t474 t479 t480 t481 t482 t501 x581_123 t452 t453 t454 t455 t489 t490 t491 t492 = some r) ∧ Aside0 (kq ≤ kj54) ∧ Aside0 (wc.heap[gb397]? = some (.cells #[.int .i64 t392, .int .i64 t393, .int .i64 t394, .int .i64 t395] 25 (0, 0))) ∧ Aside0 (wc.heap[gb456]? = some (.cells #[.int .i64 t452, .int .i64 t453, .int .i64 t454, .int .i64 t455] 25 (0, 0))) ∧ Aside0 (wc.heap[gb494]? = some (.cells #[.int .i64 t489, .int .i64 t490, .int .i64 t491, .int .i64 t492] 25 (0, 0))) ∧ Aside0 (wc.heap[gb500]? = some (.cells #[.int .i64 t495, .int .i64 t496, .int .i64 t497, .int .i64 t498] 25 (0, 0))) ∧ Aside0 (Below w.heap.size w wc))
        case first =>
         rename_i z1_ z2_ z3_ z4_ z5_ z6_ z7_ z8_ z9_ z10_ z11_ z12_ z13_ z14_ z15_
         revert hL0 HRT hu25 HR0 HC0 HR1 HC1 A3 t392 t393 t394 t395 t396 A5 t398 t401 A6 t402 t405 A7 t406 t407 t408 A8 t409 t410 t411 A9 t412 t413 t414 A10 t415 t416 t417 A11 z1_ nd z2_ w13 gb397 w14 GW397 GE397 hcz15_0 hcz15_1 hcz15_2 hcz15_3 hfz15_0 hfz15_1 hfz15_2 hfz15_3 w16 v399 hcz17_0 hcz17_1 hcz17_2 hcz17_3 hfz17_0 hfz17_1 hfz17_2 hfz17_3 w18 v403 hcz19_0 hcz19_1 hcz19_2 hcz19_3 hfz19_0 hfz19_1 hfz19_2 hfz19_3 w20 hcz21_0 hcz21_1 hcz21_2 hcz21_3 hfz21_0 hfz21_1 hfz21_2 hfz21_3 w22 hcz23_0 hcz23_1 hcz23_2 hcz23_3 hfz23_0 hfz23_1 hfz23_2 hfz23_3 w24 hcz25_0 hcz25_1 hcz25_2 hcz25_3 hfz25_0 hfz25_1 hfz25_2 hfz25_3 w26 HO400 HO404 z3_ z4_ z5_ u129 u130 u131 u132 u133 u134 u135 u136 u137 u138 u139 u140 u141 u142 u143 u144 u145 u146 u147 u148 u149 u150 u151 u152 u153 u154 u155 u156 u157 u158 u159 u160 u161 u162 u163 u164 u165 u166 u167 u168 u169 u170 u171 u172 u173 u174 u175 u176 u177 u178 u179 u180 u181 u182 u183 u184 u185 u186 u187 u188 u189 u190 u191 HO_7 z6_ z7_ kj11 HJ11 wc u4 u23 u24 u25 u26 u27 u28 u29 u194 u195 u196 u197 u198 u199 u200 u201 u202 u203 u204 u205 u206 u207 u208 u209 u210 u211 u212 u213 u214 u215 u216 u217 u218 u219 u220 u221 u222 u223 u224 u225 u226 u227 u228 u229 u230 u231 u232 u233 u234 u235 u236 u237 u238 u239 u240 u241 u242 u243 u244 u245 u246 u247 u248 u249 u250 u251 u252 u253 u254 u255 u256 u257 u258 u259 u260 u261 u262 u263 u264 u265 u266 u267 u268 u269 u270 u271 u272 u273 u274 u275 u276 u277 u278 u279 u280 u281 u282 u283 u284 u285 u286 u287 u288 u289 u290 u291 u292 u293 u294 u295 u296 u297 u298 u299 u300 u301 u302 u303 u304 u305 u306 u307 u308 u309 u310 u311 u312 u313 u314 u315 u316 u317 u318 u319 u320 u321 u322 u323 u324 u325 u326 u327 u328 u329 u330 u331 u332 u333 u334 u335 u336 u337 u338 u339 u340 u341 u342 u343 u344 u345 u346 u347 u348 u349 u350 u351 u352 u353 u354 u355 u356 u357 u358 u359 u360 u361 u362 u363 u364 u365 u366 u367 u368 u369 u370 u371 u372 u373 u374 kj54 HJ54 t452 t453 t454 t455 A111 t457 t458 t459 t460 t461 A112 t462 t463 t464 t465 t466 A113 t467 t468 t469 A114 t470 t471 t472 A115 t473 t474 t475 A116 t476 t477 t478 A117 t479 t480 t481 t482 t483 A118 t484 t485 t486 t487 t488 A119 t489 t490 t491 t492 t493 A120 t495 t496 t497 t498 t499 A121 t501 t502 A122 t503 t504 A123 HC124 w125 gb456 w126 GW456 GE456 NB397_456 NB456_397 hnb127 hnc127 hcz128_0 hcz128_1 hcz128_2 hcz128_3 hfz128_0 hfz128_1 hfz128_2 hfz128_3 w129 hcz130_0 hcz130_1 hcz130_2 hcz130_3 hfz130_0 hfz130_1 hfz130_2 hfz130_3 w131 hcz132_0 hcz132_1 hcz132_2 hcz132_3 hfz132_0 hfz132_1 hfz132_2 hfz132_3 w133 hcz134_0 hcz134_1 hcz134_2 hcz134_3 hfz134_0 hfz134_1 hfz134_2 hfz134_3 w135 hcz136_0 hcz136_1 hcz136_2 hcz136_3 hfz136_0 hfz136_1 hfz136_2 hfz136_3 w137 hcz138_0 hcz138_1 hcz138_2 hcz138_3 hfz138_0 hfz138_1 hfz138_2 hfz138_3 w139 hcz140_0 hcz140_1 hcz140_2 hcz140_3 hfz140_0 hfz140_1 hfz140_2 hfz140_3 w141 hcz142_0 hcz142_1 hcz142_2 hcz142_3 hfz142_0 hfz142_1 hfz142_2 hfz142_3 w143 hcz144_0 hcz144_1 hcz144_2 hcz144_3 hfz144_0 hfz144_1 hfz144_2 hfz144_3 w145 gb494 w146 GW494 GE494 NB397_494 NB494_397 NB456_494 NB494_456 hnb147 hnc147 hnb148 hnc148 hcz149_0 hcz149_1 hcz149_2 hcz149_3 hfz149_0 hfz149_1 hfz149_2 hfz149_3 hcz150_0 hcz150_1 hcz150_2 hcz150_3 hfz150_0 hfz150_1 hfz150_2 hfz150_3 w151 gb500 w152 GW500 GE500 NB397_500 NB500_397 NB456_500 NB500_456 NB494_500 NB500_494 hnb153 hnc153 hnb154 hnc154 hnb155 hnc155 hcz156_0 hcz156_1 hcz156_2 hcz156_3 hfz156_0 hfz156_1 hfz156_2 hfz156_3 hcz157_0 hcz157_1 hcz157_2 hcz157_3 hfz157_0 hfz157_1 hfz157_2 hfz157_3 w158 hcz159_0 hcz159_1 hcz159_2 hcz159_3 hfz159_0 hfz159_1 hfz159_2 hfz159_3 w160 BK397 BK456 BK494 BK500 HB z8_ z9_ z10_ z11_ z12_ z13_ z14_ z15_
         exact hP6.out
        case rest =>
         rename_i z1_ z2_ z3_ z4_ z5_ z6_ z7_ z8_ z9_ z10_ z11_ z12_
         revert hL0 HRT hu25 HR0 HC0 HR1 HC1 A3 t392 t393 t394 t395 t396 A5 t398 t401 A6 t402 t405 A7 t406 t407 t408 A8 t409 t410 t411 A9 t412 t413 t414 A10 t415 t416 t417 A11 z1_ nd z2_ w13 gb397 w14 GW397 GE397 hcz15_0 hcz15_1 hcz15_2 hcz15_3 hfz15_0 hfz15_1 hfz15_2 hfz15_3 w16 v399 hcz17_0 hcz17_1 hcz17_2 hcz17_3 hfz17_0 hfz17_1 hfz17_2 hfz17_3 w18 v403 hcz19_0 hcz19_1 hcz19_2 hcz19_3 hfz19_0 hfz19_1 hfz19_2 hfz19_3 w20 hcz21_0 hcz21_1 hcz21_2 hcz21_3 hfz21_0 hfz21_1 hfz21_2 hfz21_3 w22 hcz23_0 hcz23_1 hcz23_2 hcz23_3 hfz23_0 hfz23_1 hfz23_2 hfz23_3 w24 hcz25_0 hcz25_1 hcz25_2 hcz25_3 hfz25_0 hfz25_1 hfz25_2 hfz25_3 w26 HO400 HO404 z3_ z4_ z5_ u129 u130 u131 u132 u133 u134 u135 u136 u137 u138 u139 u140 u141 u142 u143 u144 u145 u146 u147 u148 u149 u150 u151 u152 u153 u154 u155 u156 u157 u158 u159 u160 u161 u162 u163 u164 u165 u166 u167 u168 u169 u170 u171 u172 u173 u174 u175 u176 u177 u178 u179 u180 u181 u182 u183 u184 u185 u186 u187 u188 u189 u190 u191 HO_7 z6_ z7_ kj11 HJ11 z8_ u4 u23 u24 u25 u26 u27 u28 u29 u194 u195 u196 u197 u198 u199 u200 u201 u202 u203 u204 u205 u206 u207 u208 u209 u210 u211 u212 u213 u214 u215 u216 u217 u218 u219 u220 u221 u222 u223 u224 u225 u226 u227 u228 u229 u230 u231 u232 u233 u234 u235 u236 u237 u238 u239 u240 u241 u242 u243 u244 u245 u246 u247 u248 u249 u250 u251 u252 u253 u254 u255 u256 u257 u258 u259 u260 u261 u262 u263 u264 u265 u266 u267 u268 u269 u270 u271 u272 u273 u274 u275 u276 u277 u278 u279 u280 u281 u282 u283 u284 u285 u286 u287 u288 u289 u290 u291 u292 u293 u294 u295 u296 u297 u298 u299 u300 u301 u302 u303 u304 u305 u306 u307 u308 u309 u310 u311 u312 u313 u314 u315 u316 u317 u318 u319 u320 u321 u322 u323 u324 u325 u326 u327 u328 u329 u330 u331 u332 u333 u334 u335 u336 u337 u338 u339 u340 u341 u342 u343 u344 u345 u346 u347 u348 u349 u350 u351 u352 u353 u354 u355 u356 u357 u358 u359 u360 u361 u362 u363 u364 u365 u366 u367 u368 u369 u370 u371 u372 u373 u374 kj54 HJ54 t452 t453 t454 t455 A111 t457 t458 t459 t460 t461 A112 t462 t463 t464 t465 t466 A113 t467 t468 t469 A114 t470 t471 t472 A115 t473 t474 t475 A116 t476 t477 t478 A117 t479 t480 t481 t482 t483 A118 t484 t485 t486 t487 t488 A119 t489 t490 t491 t492 t493 A120 t495 t496 t497 t498 t499 A121 t501 t502 A122 t503 t504 A123 HC124 w125 gb456 w126 GW456 GE456 NB397_456 NB456_397 hnb127 hnc127 hcz128_0 hcz128_1 hcz128_2 hcz128_3 hfz128_0 hfz128_1 hfz128_2 hfz128_3 w129 hcz130_0 hcz130_1 hcz130_2 hcz130_3 hfz130_0 hfz130_1 hfz130_2 hfz130_3 w131 hcz132_0 hcz132_1 hcz132_2 hcz132_3 hfz132_0 hfz132_1 hfz132_2 hfz132_3 w133 hcz134_0 hcz134_1 hcz134_2 hcz134_3 hfz134_0 hfz134_1 hfz134_2 hfz134_3 w135 hcz136_0 hcz136_1 hcz136_2 hcz136_3 hfz136_0 hfz136_1 hfz136_2 hfz136_3 w137 hcz138_0 hcz138_1 hcz138_2 hcz138_3 hfz138_0 hfz138_1 hfz138_2 hfz138_3 w139 hcz140_0 hcz140_1 hcz140_2 hcz140_3 hfz140_0 hfz140_1 hfz140_2 hfz140_3 w141 hcz142_0 hcz142_1 hcz142_2 hcz142_3 hfz142_0 hfz142_1 hfz142_2 hfz142_3 w143 hcz144_0 hcz144_1 hcz144_2 hcz144_3 hfz144_0 hfz144_1 hfz144_2 hfz144_3 w145 gb494 w146 GW494 GE494 NB397_494 NB494_397 NB456_494 NB494_456 hnb147 hnc147 hnb148 hnc148 hcz149_0 hcz149_1 hcz149_2 hcz149_3 hfz149_0 hfz149_1 hfz149_2 hfz149_3 hcz150_0 hcz150_1 hcz150_2 hcz150_3 hfz150_0 hfz150_1 hfz150_2 hfz150_3 w151 gb500 w152 GW500 GE500 NB397_500 NB500_397 NB456_500 NB500_456 NB494_500 NB500_494 hnb153 hnc153 hnb154 hnc154 hnb155 hnc155 hcz156_0 hcz156_1 hcz156_2 hcz156_3 hfz156_0 hfz156_1 hfz156_2 hfz156_3 hcz157_0 hcz157_1 hcz157_2 hcz157_3 hfz157_0 hfz157_1 hfz157_2 hfz157_3 w158 hcz159_0 hcz159_1 hcz159_2 hcz159_3 hfz159_0 hfz159_1 hfz159_2 hfz159_3 w160 BK397 BK456 BK494 BK500 HB z9_ z10_ z11_ z12_ wc u453 u454 u455 u456 u457 u458 u459 u460 u461 u462 u463 u464 u465 u466 u467 u468 u469 u470 u471 u472 u473 u474 u475 u476 u477 u478 u479 u480 u481 u482 u483 u484 u485 u486 u487 u488 u489 u490 u491 u492 u493 u494 u495 u496 u497 u498 u499 u500 u501 u502 u503 u504 u505 u506 u507 u508 u509 u510 u511 u512 u513 u514 u515 u516 u517 u518 u519 u520 u521 u522 u523 u524 u525 u526 u527 u528 u529 u530 u531 u532 u533 u534 u535 u536 u537 u538 u539 u540 u541 u542 u543 u544 u545 u546 u547 u548 u549 u550 u551 u552 u553 u554 u555 u556 u557 u558 u559 u560 u561 u562 u563 u564 u565 u566 u567 u568 u569 u570 u571 u572 u573 u574 u575 u576 u577 u578 u579 u580 u581 hcut
         exact hP7.out
end Go.Proofs.YtajlcomankjcjabGreatDoor.PFnDogsTurn
