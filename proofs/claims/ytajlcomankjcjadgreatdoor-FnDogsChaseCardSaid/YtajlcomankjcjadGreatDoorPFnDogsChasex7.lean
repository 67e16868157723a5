-- Laid by a program of this session's (wip/gen/printp.sh): the functions that the law reaches, each with its walk.
import Derived.Test.YtajlcomankjcjadGreatDoorPFnDogsChasex0
import Derived.Test.YtajlcomankjcjadGreatDoorPFnDogsChasex2
import Derived.Test.YtajlcomankjcjadGreatDoorPFnDogsChasex3
import Derived.Test.YtajlcomankjcjadGreatDoorPFnDogsChasex6
namespace Go.Proofs.YtajlcomankjcjadGreatDoor.PFnDogsChase
open Go.RowKit Go.Proofs.YtajlcomankjcjadGreatDoorW.PrintWords Go.Proofs.YtajlcomankjcjadGreatDoorW.PrintLast Go.Proofs.YtajlcomankjcjadGreatDoorW.PrintMore
attribute [local go_sem] max2_int min2_int max_two min_two max_three min_three max_four min_four   -- for this text's walks alone
set_option linter.unusedVariables false
set_option linter.unusedSimpArgs false

/-! ### spec_meLow: function 37 -/
mutual
def spec_meLow.j0 : Nat → Int → Int → Option (Int × Int)
  | 0, _, _ => none
  | k + 1, x0, x1 => (spec_l1Abs.f x0).bind fun t248 => (spec_meLow.l0 k x0 x1 t248 x1)
def spec_meLow.l0 : Nat → Int → Int → Int → Int → Option (Int × Int)
  | 0, _, _, _, _ => none
  | k + 1, x0, x1, x6, x7 => if x7 > 0 then (if x7 = 0 then (none) else (spec_meLow.l0 k x0 x1 x7 (Int.tmod x6 x7))) else (if x6 = 0 then (none) else (some (wrap64 (Int.tdiv x0 x6), wrap64 (Int.tdiv x1 x6))))
end
def spec_meLow.f (k : Nat) (a0 : Int) (a1 : Int) : Option (Int × Int) := if a1 < 0 then (spec_meLow.j0 k (wrap64 (-a0)) (wrap64 (-a1))) else (spec_meLow.j0 k a0 a1)


set_option maxHeartbeats 8000000 in
set_option maxRecDepth 100000 in
theorem spec_meLow.calls (k : Nat) (a0 : Int) (a1 : Int) (r1 : Int) (r2 : Int) (w : World) (h : spec_meLow.f k a0 a1 = some (r1, r2)) :
  Calls Tryz.prog 37 #[.int .i64 a0, .int .i64 a1] w fun e w' => e = .returned (.tuple #[.int .i64 r1, .int .i64 r2]) ∧ Drawn0 w w' := by
 have H := h
 unfold spec_meLow.f at H
 clear h
 have HC3 := Aside0.mk H
 clear H
 go_enter Tryz.func37, Tryz.ntmps37
 go_upto_if 9 with (fail)
 repeat (go_quiet (fail); go_upto_if 9 with (fail))
 go_cut [0, 1] (fun v0 v1 wc => ∃ (kq : Nat) (x0_2 : Int) (x1_2 : Int), v0 = .int .i64 x0_2 ∧ v1 = .int .i64 x1_2 ∧ Aside0 (spec_meLow.j0 kq x0_2 x1_2 = some (r1, r2)) ∧ Aside0 (kq ≤ k) ∧ Drawn0 w wc)
 case first =>
  have H := HC3.out
  clear HC3
  by_cases c4 : a1 < 0
  ·
   rw [if_pos c4] at H
   have c4b0 : decide (a1 < 0) = true := decide_eq_true c4
   clear c4
   (first | rw [c4b0] | (simp only [i64_w, i32_w]; rw [c4b0]) | skip)
   have H' := Aside0.mk H
   clear H
   go_wp2
   repeat (go_quiet (fail); try go_wp2)
   go_meet
   case rel => exact ⟨_, (wrap64 (-a0)), (wrap64 (-a1)), (rs_), (rs_), H', ⟨by first | omega | exact Nat.le_refl _⟩, by repeat (first | exact Drawn0.refl _ | apply Drawn0.step)⟩
  ·
   rw [if_neg c4] at H
   have c4b0 : decide (a1 < 0) = false := decide_eq_false c4
   clear c4
   (first | rw [c4b0] | (simp only [i64_w, i32_w]; rw [c4b0]) | skip)
   have H' := Aside0.mk H
   clear H
   go_wp2
   repeat (go_quiet (fail); try go_wp2)
   go_meet
   case rel => exact ⟨_, (a0), (a1), (rs_), (rs_), H', ⟨by first | omega | exact Nat.le_refl _⟩, by repeat (first | exact Drawn0.refl _ | apply Drawn0.step)⟩
 case rest =>
  clear HC3
  try clear p2
  try clear c3
  try clear c4
  try clear c4b0
  obtain ⟨kq, x0_2, x1_2, rfl, rfl, HA, HJ2, ⟨mc2, rfl⟩⟩ := hcut
  cases kq with
    | zero => exact absurd HA.out (by simp [spec_meLow.j0])
    | succ kj2 =>
   have H := HA.out
   clear HA
   simp only [spec_meLow.j0] at H
   replace H := Option.bind_eq_some_iff.mp H
   obtain ⟨t248, A50, H⟩ := H
   (try dsimp only at H)
   have A5 := Aside0.mk A50
   clear A50
   have H' := Aside0.mk H
   clear H
   go_wp2_with (first | (go_at_call 58; (with_reducible refine (spec_l1Abs.calls x0_2 t248 _ A5.out).mono ?_); rintro e w' ⟨rfl, ⟨nd, rfl⟩⟩; (try first | exact ⟨rfl, _, World.drewN_drewN _ _ _⟩ | exact ⟨rfl, _, Eq.trans (World.drewN_drewN _ _ _) (congrArg (World.drewN _) (Nat.add_assoc _ _ _))⟩)))
   repeat (go_quiet (first | (go_at_call 58; (with_reducible refine (spec_l1Abs.calls x0_2 t248 _ A5.out).mono ?_); rintro e w' ⟨rfl, ⟨nd, rfl⟩⟩; (try first | exact ⟨rfl, _, World.drewN_drewN _ _ _⟩ | exact ⟨rfl, _, Eq.trans (World.drewN_drewN _ _ _) (congrArg (World.drewN _) (Nat.add_assoc _ _ _))⟩))); try go_wp2_with (first | (go_at_call 58; (with_reducible refine (spec_l1Abs.calls x0_2 t248 _ A5.out).mono ?_); rintro e w' ⟨rfl, ⟨nd, rfl⟩⟩; (try first | exact ⟨rfl, _, World.drewN_drewN _ _ _⟩ | exact ⟨rfl, _, Eq.trans (World.drewN_drewN _ _ _) (congrArg (World.drewN _) (Nat.add_assoc _ _ _))⟩))))
   go_loopg [6, 7] kj2 (fun kq v6 v7 w' => ∃ (x6_2 : Int) (x7_2 : Int), v6 = .int .i64 x6_2 ∧ v7 = .int .i64 x7_2 ∧ Aside0 (spec_meLow.l0 kq x0_2 x1_2 x6_2 x7_2 = some (r1, r2)) ∧ Aside0 (kq ≤ kj2) ∧ Drawn0 w w')
   case atStart => exact ⟨(t248), (x1_2), (rs_), (rs_), H', ⟨Nat.le_refl _⟩, by repeat (first | exact Drawn0.refl _ | apply Drawn0.step)⟩
   case round =>
    clear H'
    try clear c2
    try clear p2
    try clear c3
    try clear c4
    try clear c4b0
    try clear p2
    obtain ⟨x6_2, x7_2, rfl, rfl, HA, HK2, ⟨m2, rfl⟩⟩ := hrel
    cases gk with
        | zero => exact absurd HA.out (by simp [spec_meLow.l0])
        | succ k2 =>
     have H := HA.out
     clear HA
     simp only [spec_meLow.l0] at H
     by_cases c6 : x7_2 > 0
     ·
      rw [if_pos c6] at H
      have c6b0 : decide (0 < x7_2) = true := decide_eq_true c6
      clear c6
      by_cases c7 : x7_2 = 0
      ·
       rw [if_pos c7] at H
       exact absurd H (by simp)
      ·
       rw [if_neg c7] at H
       have c7b0 : (x7_2 == 0) = false := beq_eq_false_iff_ne.mpr c7
       have c7b1 : (x7_2 != 0) = true := bne_iff_ne.mpr c7
       have H' := Aside0.mk H
       clear H
       go_wp2
       repeat (go_quiet (fail); try go_wp2)
       go_roundg k2
       case measure => have := HJ2.out; have := HK2.out; omega
       case rel => exact ⟨(x7_2), (Int.tmod x6_2 x7_2), (rs_), (rs_), H', ⟨by have := HJ2.out; have := HK2.out; omega⟩, by repeat (first | exact Drawn0.refl _ | apply Drawn0.step)⟩
     ·
      rw [if_neg c6] at H
      have c6b0 : decide (0 < x7_2) = false := decide_eq_false c6
      clear c6
      by_cases c8 : x6_2 = 0
      ·
       rw [if_pos c8] at H
       exact absurd H (by simp)
      ·
       rw [if_neg c8] at H
       have c8b0 : (x6_2 == 0) = false := beq_eq_false_iff_ne.mpr c8
       have c8b1 : (x6_2 != 0) = true := bne_iff_ne.mpr c8
       simp only [Option.some.injEq, Prod.mk.injEq] at H
       obtain ⟨rfl, rfl⟩ := H
       go_wp2
       repeat (go_quiet (fail); try go_wp2)
       go_ret2
       exact ⟨rs_, by repeat (first | exact Drawn0.refl _ | apply Drawn0.step)⟩

/-! ### spec_DistanceOf: function 34 -/
def spec_DistanceOf.f (k : Nat) (a0_0 : Int) (a0_1 : Int) (a0_2 : Int) (a0_3 : Int) : Option (Int × Int × Int × Int × Bool) := (spec_doGood.f a0_0 a0_1 a0_2 a0_3).bind fun t250 => (if t250 = true then ((spec_meLow.f k (wrap64 (a0_0 * a0_1)) (wrap64 (a0_1 + a0_2))).bind fun bt251 => ((spec_meLow.f k (wrap64 (a0_0 * a0_2)) (wrap64 (a0_1 + a0_2))).bind fun bt253 => (some (bt251.1, bt251.2, bt253.1, bt253.2, true)))) else (some (0, 0, 0, 0, false)))

set_option maxHeartbeats 8000000 in
set_option maxRecDepth 100000 in
theorem spec_DistanceOf.calls (k : Nat) (a0_0 : Int) (a0_1 : Int) (a0_2 : Int) (a0_3 : Int) (r1 : Int) (r2 : Int) (r3 : Int) (r4 : Int) (r5 : Bool) (w : World) (h : spec_DistanceOf.f k a0_0 a0_1 a0_2 a0_3 = some (r1, r2, r3, r4, r5)) :
  Calls Tryz.prog 34 #[.agg #[.int .i64 a0_0, .int .i64 a0_1, .int .i64 a0_2, .int .i64 a0_3]] w fun e w' => e = .returned (.tuple #[.int .i64 r1, .int .i64 r2, .int .i64 r3, .int .i64 r4, .bool r5]) ∧ Below w.heap.size w w' := by
 have hu25 := Tryz.underlying25
 have HB := Aside0.mk (Below.refl w.heap.size w)
 have H := h
 unfold spec_DistanceOf.f at H
 clear h
 replace H := Option.bind_eq_some_iff.mp H
 obtain ⟨t250, A20, H⟩ := H
 (try dsimp only at H)
 have A2 := Aside0.mk A20
 clear A20
 by_cases c3 : t250 = true
 ·
  subst c3
  rw [if_pos rfl] at H
  replace H := Option.bind_eq_some_iff.mp H
  obtain ⟨⟨t251, t252⟩, A40, H⟩ := H
  (try dsimp only at H)
  have A4 := Aside0.mk A40
  clear A40
  replace H := Option.bind_eq_some_iff.mp H
  obtain ⟨⟨t253, t254⟩, A50, H⟩ := H
  (try dsimp only at H)
  have A5 := Aside0.mk A50
  clear A50
  simp only [Option.some.injEq, Prod.mk.injEq] at H
  obtain ⟨rfl, rfl, rfl, rfl, rfl⟩ := H
  go_enter Tryz.func34, Tryz.ntmps34
  go_wp2_with (first | ((with_reducible refine gate_dst (N := 1) rfl ?_); refine be_ 1 #[.int .i64 a0_0, .int .i64 a0_1, .int .i64 a0_2, .int .i64 a0_3] 25 ?_; intro gb249 hg w6 hbox hb; have n0_ := Aside0.mk (below_step bw_ hb); have n1_ := Aside0.mk (hbox); have n2_ := Aside0.mk (bz_ (w := w) hg); have n3_ := Aside0.mk (bz_ (w := w) hg); clear HB; have HB := n0_; have BK249 := n1_; have GW249 := n2_; have GE249 := n3_; clear n0_ n1_ n2_ n3_; clear hb hbox hg; obtain ⟨hcz7_0, hcz7_1, hcz7_2, hcz7_3, hfz7_0, hfz7_1, hfz7_2, hfz7_3⟩ := four_ BK249.out) | ((with_reducible refine gate_callee (f := 32) rfl ?_); refine gl_ (some 12) Tryz.func32 #[.agg #[.int .i64 a0_0, .int .i64 a0_1, .int .i64 a0_2, .int .i64 a0_3]] ?_; (with_reducible refine (spec_doGood.calls a0_0 a0_1 a0_2 a0_3 true _ A2.out).mono ?_); rintro e w8 ⟨rfl, hb⟩; refine ⟨_, rfl, ?_⟩; have n0_ := Aside0.mk (bb_ BK249.out hb); have n1_ := Aside0.mk (below_step bw_ hb); clear BK249; clear HB; have BK249 := n0_; have HB := n1_; clear n0_ n1_; (try clear hb); (try clear hb2); (try clear hk); (try clear hi); obtain ⟨hcz9_0, hcz9_1, hcz9_2, hcz9_3, hfz9_0, hfz9_1, hfz9_2, hfz9_3⟩ := four_ BK249.out) | ((with_reducible refine gate_callee (f := 37) rfl ?_); refine gl_ (some 25) Tryz.func37 #[.int .i64 (wrap64 (a0_0 * a0_1)), .int .i64 (wrap64 (a0_1 + a0_2))] ?_; (with_reducible refine (spec_meLow.calls k (wrap64 (a0_0 * a0_1)) (wrap64 (a0_1 + a0_2)) t251 t252 _ A4.out).mono ?_); rintro e w' ⟨rfl, ⟨nd, rfl⟩⟩; refine ⟨_, rfl, ?_⟩) | ((with_reducible refine gate_callee (f := 37) rfl ?_); refine gl_ (some 39) Tryz.func37 #[.int .i64 (wrap64 (a0_0 * a0_2)), .int .i64 (wrap64 (a0_1 + a0_2))] ?_; (with_reducible refine (spec_meLow.calls k (wrap64 (a0_0 * a0_2)) (wrap64 (a0_1 + a0_2)) t253 t254 _ A5.out).mono ?_); rintro e w' ⟨rfl, ⟨nd, rfl⟩⟩; refine ⟨_, rfl, ?_⟩))
  refine bodyPost_ret (results_list (rs := [.tmp 2, .tmp 3, .tmp 4, .tmp 5, .tmp 6]) rfl (by simp) (.tmp (.tmp (.tmp (.tmp (.tmp .nil)))))) rfl ?_
  exact ⟨rt_, bw_⟩
 ·
  replace c3 := Bool.eq_false_iff.mpr c3
  subst c3
  rw [if_neg (show ¬ (false = true) by decide)] at H
  simp only [Option.some.injEq, Prod.mk.injEq] at H
  obtain ⟨rfl, rfl, rfl, rfl, rfl⟩ := H
  go_enter Tryz.func34, Tryz.ntmps34
  go_wp2_with (first | ((with_reducible refine gate_dst (N := 1) rfl ?_); refine be_ 1 #[.int .i64 a0_0, .int .i64 a0_1, .int .i64 a0_2, .int .i64 a0_3] 25 ?_; intro gb249 hg w10 hbox hb; have n0_ := Aside0.mk (below_step bw_ hb); have n1_ := Aside0.mk (hbox); have n2_ := Aside0.mk (bz_ (w := w) hg); have n3_ := Aside0.mk (bz_ (w := w) hg); clear HB; have HB := n0_; have BK249 := n1_; have GW249 := n2_; have GE249 := n3_; clear n0_ n1_ n2_ n3_; clear hb hbox hg; obtain ⟨hcz11_0, hcz11_1, hcz11_2, hcz11_3, hfz11_0, hfz11_1, hfz11_2, hfz11_3⟩ := four_ BK249.out) | ((with_reducible refine gate_callee (f := 32) rfl ?_); refine gl_ (some 12) Tryz.func32 #[.agg #[.int .i64 a0_0, .int .i64 a0_1, .int .i64 a0_2, .int .i64 a0_3]] ?_; (with_reducible refine (spec_doGood.calls a0_0 a0_1 a0_2 a0_3 false _ A2.out).mono ?_); rintro e w12 ⟨rfl, hb⟩; refine ⟨_, rfl, ?_⟩; have n0_ := Aside0.mk (bb_ BK249.out hb); have n1_ := Aside0.mk (below_step bw_ hb); clear BK249; clear HB; have BK249 := n0_; have HB := n1_; clear n0_ n1_; (try clear hb); (try clear hb2); (try clear hk); (try clear hi)))
  refine bodyPost_ret (results_list (rs := [.tmp 2, .tmp 3, .tmp 4, .tmp 5, .tmp 6]) rfl (by simp) (.tmp (.tmp (.tmp (.tmp (.tmp .nil)))))) rfl ?_
  exact ⟨rt_, bw_⟩

/-! ### spec_doRun: function 36 -/
def spec_doRun.l0 : Nat → Int → List (S66) → Int → Int → Int → Int → Int → Int → Int → Int → Int → Int → Option ((List (S66)))
  | 0, _, _, _, _, _, _, _, _, _, _, _, _ => none
  | k + 1, x1, x6, x7, x256000, x256001, x256002, x256003, x257000, x257001, x257002, x257003, x257004 => if x7 ≤ x1 then (if (Int.tmod x7 2) = 0 then ((spec_l1Most.f 0 (wrap64 (-x256003))).bind fun t261 => (if x6.length < 3518437208883 then (spec_doRun.l0 k x1 (x6 ++ [(⟨wrap64 ((wrap64 (x257000 * (wrap64 (x256003 + x256001)))) + x257002), wrap64 ((wrap64 (x257001 * (wrap64 (x256003 + x256001)))) + (wrap64 ((wrap64 (-x256003)) * x257002))), wrap64 (x257002 * (wrap64 ((wrap64 ((wrap64 (x256003 + x256001)) - x256001)) - x256002))), wrap64 ((wrap64 (x257003 * (wrap64 (x256003 + x256001)))) + (wrap64 (t261 * x257002))), wrap64 (x257004 * (wrap64 (x256003 + x256001)))⟩ : S66)]) (wrap64 (x7 + 1)) x256000 x256001 x256002 x256003 (wrap64 ((wrap64 (x257000 * (wrap64 (x256003 + x256001)))) + x257002)) (wrap64 ((wrap64 (x257001 * (wrap64 (x256003 + x256001)))) + (wrap64 ((wrap64 (-x256003)) * x257002)))) (wrap64 (x257002 * (wrap64 ((wrap64 ((wrap64 (x256003 + x256001)) - x256001)) - x256002)))) (wrap64 ((wrap64 (x257003 * (wrap64 (x256003 + x256001)))) + (wrap64 (t261 * x257002)))) (wrap64 (x257004 * (wrap64 (x256003 + x256001))))) else (none))) else ((spec_l1Most.f 0 x256003).bind fun t266 => (if x6.length < 3518437208883 then (spec_doRun.l0 k x1 (x6 ++ [(⟨wrap64 ((wrap64 (x257000 * (wrap64 (x256003 + x256002)))) + x257002), wrap64 ((wrap64 (x257001 * (wrap64 (x256003 + x256002)))) + (wrap64 (x256003 * x257002))), wrap64 (x257002 * (wrap64 ((wrap64 ((wrap64 (x256003 + x256002)) - x256001)) - x256002))), wrap64 ((wrap64 (x257003 * (wrap64 (x256003 + x256002)))) + (wrap64 (t266 * x257002))), wrap64 (x257004 * (wrap64 (x256003 + x256002)))⟩ : S66)]) (wrap64 (x7 + 1)) x256000 x256001 x256002 x256003 (wrap64 ((wrap64 (x257000 * (wrap64 (x256003 + x256002)))) + x257002)) (wrap64 ((wrap64 (x257001 * (wrap64 (x256003 + x256002)))) + (wrap64 (x256003 * x257002)))) (wrap64 (x257002 * (wrap64 ((wrap64 ((wrap64 (x256003 + x256002)) - x256001)) - x256002)))) (wrap64 ((wrap64 (x257003 * (wrap64 (x256003 + x256002)))) + (wrap64 (t266 * x257002)))) (wrap64 (x257004 * (wrap64 (x256003 + x256002))))) else (none)))) else (some x6)
def spec_doRun.f (k : Nat) (a0_0 : Int) (a0_1 : Int) (a0_2 : Int) (a0_3 : Int) (a1 : Int) : Option ((List (S66))) := spec_doRun.l0 k a1 (([(⟨0, 0, a0_0, 0, 1⟩ : S66)] : List (S66))) 1 a0_0 a0_1 a0_2 a0_3 0 0 a0_0 0 1


def spec_doRun.T15 : Bool × List (List Nat × List Nat) := (true, [([], []), ([0], [0]), ([], []), ([1, 2], [1, 2]), ([], []), ([4], [4]), ([], []), ([6], [6]), ([5, 7], [5, 7]), ([3, 8], [3, 8]), ([0, 1, 2, 3, 4, 5, 6, 7, 8, 9], []), ([10, 9, 5, 0, 1, 2, 3, 4, 5, 6, 7, 8, 9], [9, 10])])
def spec_doRun.B15 : List Nat := [0, 1, 0, 7, 0, 16, 0, 64, 240, 511, 1023, 2047]
theorem spec_doRun.tab15 : rtab .any (opsOf Tryz.f36 15) = spec_doRun.T15 := by kernel_rfl
theorem spec_doRun.bits15 : waitsOk spec_doRun.T15.2 spec_doRun.B15 = true := by kernel_rfl
set_option maxHeartbeats 8000000 in
set_option maxRecDepth 100000 in
theorem spec_doRun.calls (k : Nat) (a0_0 : Int) (a0_1 : Int) (a0_2 : Int) (a0_3 : Int) (a1 : Int) (r : List (S66)) (w : World) (h : spec_doRun.f k a0_0 a0_1 a0_2 a0_3 a1 = some r) :
  Calls Tryz.prog 36 #[.agg #[.int .i64 a0_0, .int .i64 a0_1, .int .i64 a0_2, .int .i64 a0_3], .int .i64 a1] w fun e w' => ∃ v0_ : Value, e = .returned (v0_) ∧ Kd.R k66 66 w' w.heap.size (fun _ => True) v0_ r ∧ Below w.heap.size w w' := by
 have hu25 := Tryz.underlying25
 have hu66 := Tryz.underlying66
 have HB := Aside0.mk (Below.refl w.heap.size w)
 have H := h
 unfold spec_doRun.f at H
 clear h
 obtain ⟨y257, hy257⟩ : ∃ y_ : List (S66), y_ = (([(⟨0, 0, a0_0, 0, 1⟩ : S66)] : List (S66))) := ⟨_, rfl⟩
 replace H : (spec_doRun.l0 k a1 y257 1 a0_0 a0_1 a0_2 a0_3 0 0 a0_0 0 1) = some r := by first | (rw [hy257]; with_reducible exact H) | (have H2_ := (Option.bind_some _ _).symm.trans H; rw [hy257]; with_reducible exact H2_) | (have H2_ := (Option.bind_some _ _).symm.trans H; with_reducible exact H2_) | with_reducible exact H | (rw [hy257]; exact H) | exact H
 have Ny257 := Aside0.mk hy257
 clear hy257
 have H' := Aside0.mk H
 clear H
 go_enter Tryz.func36, Tryz.ntmps36
 go_wp2_with (first | ((with_reducible refine gate_dst (N := 2) rfl ?_); refine be_ 2 #[.int .i64 a0_0, .int .i64 a0_1, .int .i64 a0_2, .int .i64 a0_3] 25 ?_; intro gb255 hg w3 hbox hb; have n0_ := Aside0.mk (below_step bw_ hb); have n1_ := Aside0.mk (hbox); have n2_ := Aside0.mk (bz_ (w := w) hg); have n3_ := Aside0.mk (bz_ (w := w) hg); clear HB; have HB := n0_; have BK255 := n1_; have GW255 := n2_; have GE255 := n3_; clear n0_ n1_ n2_ n3_; clear hb hbox hg; obtain ⟨hcz4_0, hcz4_1, hcz4_2, hcz4_3, hfz4_0, hfz4_1, hfz4_2, hfz4_3⟩ := four_ BK255.out) | ((with_reducible refine gate_dst (N := 5) rfl ?_); refine be_ 5 #[.int .i64 0, .int .i64 0, .int .i64 0, .int .i64 0, .int .i64 0] 66 ?_; intro gb256 hg w5 hbox hb; have n0_ := Aside0.mk (bb_ BK255.out hb); have n1_ := Aside0.mk (below_step bw_ hb); have n2_ := Aside0.mk (hbox); have n3_ := Aside0.mk (bz_ (w := w) hg); have n4_ := Aside0.mk (bz_ (w := w) hg); have n5_ := Aside0.mk (nl_ BK255.out hg); have n6_ := Aside0.mk (ng_ BK255.out hg); clear BK255; clear HB; have BK255 := n0_; have HB := n1_; have BK256 := n2_; have GW256 := n3_; have GE256 := n4_; have NB255_256 := n5_; have NB256_255 := n6_; clear n0_ n1_ n2_ n3_ n4_ n5_ n6_; clear hb hbox hg; have hnb6 := NB256_255.out; have hnc6 := NB255_256.out; have hcz7_0 : w5.cell? ⟨gb256, 0, none⟩ = some (.int .i64 0) := (blk_cell BK256.out 0).trans rfl; have hcz7_1 : w5.cell? ⟨gb256, 1, none⟩ = some (.int .i64 0) := (blk_cell BK256.out 1).trans rfl; have hcz7_2 : w5.cell? ⟨gb256, 2, none⟩ = some (.int .i64 0) := (blk_cell BK256.out 2).trans rfl; have hcz7_3 : w5.cell? ⟨gb256, 3, none⟩ = some (.int .i64 0) := (blk_cell BK256.out 3).trans rfl; have hcz7_4 : w5.cell? ⟨gb256, 4, none⟩ = some (.int .i64 0) := (blk_cell BK256.out 4).trans rfl; have hfz7_0 := blk_frozen BK256.out 0; have hfz7_1 := blk_frozen BK256.out 1; have hfz7_2 := blk_frozen BK256.out 2; have hfz7_3 := blk_frozen BK256.out 3; have hfz7_4 := blk_frozen BK256.out 4) | ((with_reducible refine gate_dst (N := 15) rfl ?_); refine Kd.R_lit k66 _ 66 ?hg (N := 15) ?hd (xs := ([(⟨0, 0, a0_0, 0, 1⟩ : S66)] : List (S66))) (inner := [.int .i64 0, .int .i64 0, .int .i64 a0_0, .int .i64 0, .int .i64 1]) (ok := fun _ => True) (okp := fun _ => True) ?hr ?hp (fun _ hk => hk) trivial (Below.refl _ _) (Nat.le_refl _) (by simp) ?_; (case hd => rfl); (case hg => rfl); (case hr => first | (go_simp; done) | (go_simp; rfl)); (case hp => exact (Reps.c5 (show Kd.M k66 _ _ _ (⟨0, 0, a0_0, 0, 1⟩ : S66) [.int .i64 0, .int .i64 0, .int .i64 a0_0, .int .i64 0, .int .i64 1] from (k66_mkM _ _ _ (⟨0, 0, a0_0, 0, 1⟩ : S66) )) (Reps.none _ _))); intro v258 w8 ho9 hb hg_ hnew_; clear hg_ hnew_; (first | rw [← Ny257.out] at ho9 | (simp only [Int.reduceToNat] at ho9; rw [← Ny257.out] at ho9)); have n0_ := Aside0.mk (Kd.R_lower (Kd.R_newB ho9 (g := gb256) (o := .cells #[.int .i64 0, .int .i64 0, .int .i64 a0_0, .int .i64 0, .int .i64 1] 66 (0, 0)) (by (with_reducible repeat (first | refine blk_drewN ?_ _ | refine blk_drew ?_ | refine blk_alloc ?_ _)); refine blk_put (cs := #[.int .i64 0, .int .i64 0, .int .i64 a0_0, .int .i64 0, .int .i64 0]) ?_ 4 _ rfl; (with_reducible repeat (first | refine blk_drewN ?_ _ | refine blk_drew ?_ | refine blk_alloc ?_ _)); refine blk_put (cs := #[.int .i64 0, .int .i64 0, .int .i64 a0_0, .int .i64 0, .int .i64 0]) ?_ 3 _ rfl; (with_reducible repeat (first | refine blk_drewN ?_ _ | refine blk_drew ?_ | refine blk_alloc ?_ _)); refine blk_put (cs := #[.int .i64 0, .int .i64 0, .int .i64 0, .int .i64 0, .int .i64 0]) ?_ 2 _ rfl; (with_reducible repeat (first | refine blk_drewN ?_ _ | refine blk_drew ?_ | refine blk_alloc ?_ _)); refine blk_put (cs := #[.int .i64 0, .int .i64 0, .int .i64 0, .int .i64 0, .int .i64 0]) ?_ 1 _ rfl; (with_reducible repeat (first | refine blk_drewN ?_ _ | refine blk_drew ?_ | refine blk_alloc ?_ _)); refine blk_put (cs := #[.int .i64 0, .int .i64 0, .int .i64 0, .int .i64 0, .int .i64 0]) ?_ 0 _ rfl; (with_reducible repeat (first | refine blk_drewN ?_ _ | refine blk_drew ?_ | refine blk_alloc ?_ _)); exact BK256.out)) (below_size bw_)); have n1_ := Aside0.mk (blk_below (g := gb255) (o := .cells #[.int .i64 a0_0, .int .i64 a0_1, .int .i64 a0_2, .int .i64 a0_3] 25 (0, 0)) bf_ hb); have n2_ := Aside0.mk (blk_below (g := gb256) (o := .cells #[.int .i64 0, .int .i64 0, .int .i64 a0_0, .int .i64 0, .int .i64 1] 66 (0, 0)) (by (with_reducible repeat (first | refine blk_drewN ?_ _ | refine blk_drew ?_ | refine blk_alloc ?_ _)); refine blk_put (cs := #[.int .i64 0, .int .i64 0, .int .i64 a0_0, .int .i64 0, .int .i64 0]) ?_ 4 _ rfl; (with_reducible repeat (first | refine blk_drewN ?_ _ | refine blk_drew ?_ | refine blk_alloc ?_ _)); refine blk_put (cs := #[.int .i64 0, .int .i64 0, .int .i64 a0_0, .int .i64 0, .int .i64 0]) ?_ 3 _ rfl; (with_reducible repeat (first | refine blk_drewN ?_ _ | refine blk_drew ?_ | refine blk_alloc ?_ _)); refine blk_put (cs := #[.int .i64 0, .int .i64 0, .int .i64 0, .int .i64 0, .int .i64 0]) ?_ 2 _ rfl; (with_reducible repeat (first | refine blk_drewN ?_ _ | refine blk_drew ?_ | refine blk_alloc ?_ _)); refine blk_put (cs := #[.int .i64 0, .int .i64 0, .int .i64 0, .int .i64 0, .int .i64 0]) ?_ 1 _ rfl; (with_reducible repeat (first | refine blk_drewN ?_ _ | refine blk_drew ?_ | refine blk_alloc ?_ _)); refine blk_put (cs := #[.int .i64 0, .int .i64 0, .int .i64 0, .int .i64 0, .int .i64 0]) ?_ 0 _ rfl; (with_reducible repeat (first | refine blk_drewN ?_ _ | refine blk_drew ?_ | refine blk_alloc ?_ _)); exact BK256.out) hb); have n3_ := Aside0.mk (below_step bw_ hb); clear BK255; clear BK256; clear HB; have HO259 := n0_; have BK255 := n1_; have BK256 := n2_; have HB := n3_; clear n0_ n1_ n2_ n3_; clear hb ho9))
 go_loopg [6, 7] k (fun kq v6 v7 w' => ∃ (x6_1 : List (S66)) (x7_1 : Int) (x257000_1 : Int) (x257001_1 : Int) (x257002_1 : Int) (x257003_1 : Int) (x257004_1 : Int), v7 = .int .i64 x7_1 ∧ Aside0 (spec_doRun.l0 kq a1 x6_1 x7_1 a0_0 a0_1 a0_2 a0_3 x257000_1 x257001_1 x257002_1 x257003_1 x257004_1 = some r) ∧ Aside0 (kq ≤ k) ∧ Aside0 (Kd.R k66 66 w' w.heap.size (fun k_ => k_ ≠ gb256) v6 x6_1) ∧ Aside0 (w'.heap[gb255]? = some (.cells #[.int .i64 a0_0, .int .i64 a0_1, .int .i64 a0_2, .int .i64 a0_3] 25 (0, 0))) ∧ Aside0 (w'.heap[gb256]? = some (.cells #[.int .i64 x257000_1, .int .i64 x257001_1, .int .i64 x257002_1, .int .i64 x257003_1, .int .i64 x257004_1] 66 (0, 0))) ∧ Aside0 (Below w.heap.size w w'))
 case atStart => exact ⟨(y257), (1), (0), (0), (a0_0), (0), (1), (rs_), H', ⟨Nat.le_refl _⟩, ⟨by (with_reducible repeat (first | apply Kd.R_alloc | apply Kd.R_drewN | apply Kd.R_drew)); exact Kd.R_mono HO259.out (fun _ hk => hk.2)⟩, ⟨bk_⟩, ⟨bk_⟩, ⟨bw_⟩⟩
 case round =>
  clear H'
  try clear p2
  try clear c3
  try clear c5
  try clear c6
  try clear hcz4_0
  try clear hcz4_1
  try clear hcz4_2
  try clear hcz4_3
  try clear hcz7_0
  try clear hcz7_1
  try clear hcz7_2
  try clear hcz7_3
  try clear hcz7_4
  try clear hfz4_0
  try clear hfz4_1
  try clear hfz4_2
  try clear hfz4_3
  try clear hfz7_0
  try clear hfz7_1
  try clear hfz7_2
  try clear hfz7_3
  try clear hfz7_4
  obtain ⟨x6_1, x7_1, x257000_1, x257001_1, x257002_1, x257003_1, x257004_1, rfl, HA, HK1, HO_6, BK255, BK256, HB⟩ := hrel
  cases gk with
    | zero => exact absurd HA.out (by simp [spec_doRun.l0])
    | succ k1 =>
   have H := HA.out
   clear HA
   simp only [spec_doRun.l0] at H
   by_cases c10 : x7_1 ≤ a1
   ·
    rw [if_pos c10] at H
    have c10b0 : decide (x7_1 ≤ a1) = true := decide_eq_true c10
    clear c10
    by_cases c11 : (Int.tmod x7_1 2) = 0
    ·
     rw [if_pos c11] at H
     have c11b0 : ((Int.tmod x7_1 2) == 0) = true := beq_iff_eq.mpr c11
     have c11b1 : ((Int.tmod x7_1 2) != 0) = false := bne_eq_false_iff_eq.mpr c11
     clear c11
     replace H := Option.bind_eq_some_iff.mp H
     obtain ⟨t261, A120, H⟩ := H
     (try dsimp only at H)
     have A12 := Aside0.mk A120
     clear A120
     by_cases c13 : x6_1.length < 3518437208883
     ·
      rw [if_pos c13] at H
      have LMc13 := Aside0.mk c13
      clear c13
      obtain ⟨y262, hy262⟩ : ∃ y_ : List (S66), y_ = (x6_1 ++ [(⟨wrap64 ((wrap64 (x257000_1 * (wrap64 (a0_3 + a0_1)))) + x257002_1), wrap64 ((wrap64 (x257001_1 * (wrap64 (a0_3 + a0_1)))) + (wrap64 ((wrap64 (-a0_3)) * x257002_1))), wrap64 (x257002_1 * (wrap64 ((wrap64 ((wrap64 (a0_3 + a0_1)) - a0_1)) - a0_2))), wrap64 ((wrap64 (x257003_1 * (wrap64 (a0_3 + a0_1)))) + (wrap64 (t261 * x257002_1))), wrap64 (x257004_1 * (wrap64 (a0_3 + a0_1)))⟩ : S66)]) := ⟨_, rfl⟩
      replace H : (spec_doRun.l0 k1 a1 y262 (wrap64 (x7_1 + 1)) a0_0 a0_1 a0_2 a0_3 (wrap64 ((wrap64 (x257000_1 * (wrap64 (a0_3 + a0_1)))) + x257002_1)) (wrap64 ((wrap64 (x257001_1 * (wrap64 (a0_3 + a0_1)))) + (wrap64 ((wrap64 (-a0_3)) * x257002_1)))) (wrap64 (x257002_1 * (wrap64 ((wrap64 ((wrap64 (a0_3 + a0_1)) - a0_1)) - a0_2)))) (wrap64 ((wrap64 (x257003_1 * (wrap64 (a0_3 + a0_1)))) + (wrap64 (t261 * x257002_1)))) (wrap64 (x257004_1 * (wrap64 (a0_3 + a0_1))))) = some r := by first | (rw [hy262]; with_reducible exact H) | (have H2_ := (Option.bind_some _ _).symm.trans H; rw [hy262]; with_reducible exact H2_) | (have H2_ := (Option.bind_some _ _).symm.trans H; with_reducible exact H2_) | with_reducible exact H | (rw [hy262]; exact H) | exact H
      have Ny262 := Aside0.mk hy262
      clear hy262
      have H' := Aside0.mk H
      clear H
      have hnb14 := NB255_256.out
      have hnc14 := NB256_255.out
      obtain ⟨hcz15_0, hcz15_1, hcz15_2, hcz15_3, hfz15_0, hfz15_1, hfz15_2, hfz15_3⟩ := four_ BK255.out
      have hcz16_0 : wr.cell? ⟨gb256, 0, none⟩ = some (.int .i64 x257000_1) := (blk_cell BK256.out 0).trans rfl
      have hcz16_1 : wr.cell? ⟨gb256, 1, none⟩ = some (.int .i64 x257001_1) := (blk_cell BK256.out 1).trans rfl
      have hcz16_2 : wr.cell? ⟨gb256, 2, none⟩ = some (.int .i64 x257002_1) := (blk_cell BK256.out 2).trans rfl
      have hcz16_3 : wr.cell? ⟨gb256, 3, none⟩ = some (.int .i64 x257003_1) := (blk_cell BK256.out 3).trans rfl
      have hcz16_4 : wr.cell? ⟨gb256, 4, none⟩ = some (.int .i64 x257004_1) := (blk_cell BK256.out 4).trans rfl
      have hfz16_0 := blk_frozen BK256.out 0
      have hfz16_1 := blk_frozen BK256.out 1
      have hfz16_2 := blk_frozen BK256.out 2
      have hfz16_3 := blk_frozen BK256.out 3
      have hfz16_4 := blk_frozen BK256.out 4
      try go_wp2_with (first | ((with_reducible refine gate_dst (N := 10) rfl ?_); refine be_ 10 #[.int .i64 0, .int .i64 0, .int .i64 0, .int .i64 0, .int .i64 0] 66 ?_; intro gb260 hg w17 hbox hb; have n0_ := Aside0.mk (Kd.R_below (Kd.R_elderB (by (with_reducible repeat (first | apply Kd.R_alloc | apply Kd.R_drewN | apply Kd.R_drew)); exact HO_6.out) gb260 (Nat.le_of_eq hg.symm)) hb); have n1_ := Aside0.mk (bb_ BK255.out hb); have n2_ := Aside0.mk (bb_ BK256.out hb); have n3_ := Aside0.mk (below_step bw_ hb); have n4_ := Aside0.mk (hbox); have n5_ := Aside0.mk (bz_ (w := w) hg); have n6_ := Aside0.mk (bz_ (w := w) hg); have n7_ := Aside0.mk (nl_ BK255.out hg); have n8_ := Aside0.mk (ng_ BK255.out hg); have n9_ := Aside0.mk (nl_ BK256.out hg); have n10_ := Aside0.mk (ng_ BK256.out hg); clear HO_6; clear BK255; clear BK256; clear HB; have HO_6 := n0_; have BK255 := n1_; have BK256 := n2_; have HB := n3_; have BK260 := n4_; have GW260 := n5_; have GE260 := n6_; have NB255_260 := n7_; have NB260_255 := n8_; have NB256_260 := n9_; have NB260_256 := n10_; clear n0_ n1_ n2_ n3_ n4_ n5_ n6_ n7_ n8_ n9_ n10_; clear hb hbox hg; have hnb18 := NB260_255.out; have hnc18 := NB255_260.out; have hnb19 := NB260_256.out; have hnc19 := NB256_260.out; have hcz20_0 : w17.cell? ⟨gb260, 0, none⟩ = some (.int .i64 0) := (blk_cell BK260.out 0).trans rfl; have hcz20_1 : w17.cell? ⟨gb260, 1, none⟩ = some (.int .i64 0) := (blk_cell BK260.out 1).trans rfl; have hcz20_2 : w17.cell? ⟨gb260, 2, none⟩ = some (.int .i64 0) := (blk_cell BK260.out 2).trans rfl; have hcz20_3 : w17.cell? ⟨gb260, 3, none⟩ = some (.int .i64 0) := (blk_cell BK260.out 3).trans rfl; have hcz20_4 : w17.cell? ⟨gb260, 4, none⟩ = some (.int .i64 0) := (blk_cell BK260.out 4).trans rfl; have hfz20_0 := blk_frozen BK260.out 0; have hfz20_1 := blk_frozen BK260.out 1; have hfz20_2 := blk_frozen BK260.out 2; have hfz20_3 := blk_frozen BK260.out 3; have hfz20_4 := blk_frozen BK260.out 4; have hcz21_0 : w17.cell? ⟨gb256, 0, none⟩ = some (.int .i64 x257000_1) := (blk_cell BK256.out 0).trans rfl; have hcz21_1 : w17.cell? ⟨gb256, 1, none⟩ = some (.int .i64 x257001_1) := (blk_cell BK256.out 1).trans rfl; have hcz21_2 : w17.cell? ⟨gb256, 2, none⟩ = some (.int .i64 x257002_1) := (blk_cell BK256.out 2).trans rfl; have hcz21_3 : w17.cell? ⟨gb256, 3, none⟩ = some (.int .i64 x257003_1) := (blk_cell BK256.out 3).trans rfl; have hcz21_4 : w17.cell? ⟨gb256, 4, none⟩ = some (.int .i64 x257004_1) := (blk_cell BK256.out 4).trans rfl; have hfz21_0 := blk_frozen BK256.out 0; have hfz21_1 := blk_frozen BK256.out 1; have hfz21_2 := blk_frozen BK256.out 2; have hfz21_3 := blk_frozen BK256.out 3; have hfz21_4 := blk_frozen BK256.out 4; obtain ⟨hcz22_0, hcz22_1, hcz22_2, hcz22_3, hfz22_0, hfz22_1, hfz22_2, hfz22_3⟩ := four_ BK255.out))
      have n0_ : Aside0 (Kd.R k66 66 ((((((((w17.setCell ⟨gb260, 0, none⟩ (.int .i64 0)).setCell ⟨gb260, 1, none⟩ (.int .i64 0)).setCell ⟨gb260, 2, none⟩ (.int .i64 0)).setCell ⟨gb260, 3, none⟩ (.int .i64 0)).setCell ⟨gb260, 4, none⟩ (.int .i64 (wrap64 (x257004_1 * (wrap64 (a0_3 + a0_1)))))).setCell ⟨gb260, 0, none⟩ (.int .i64 (wrap64 ((wrap64 (x257000_1 * (wrap64 (a0_3 + a0_1)))) + x257002_1)))).setCell ⟨gb260, 1, none⟩ (.int .i64 (wrap64 ((wrap64 (x257001_1 * (wrap64 (a0_3 + a0_1)))) + (wrap64 ((wrap64 (-a0_3)) * x257002_1)))))).setCell ⟨gb260, 2, none⟩ (.int .i64 (wrap64 (x257002_1 * (wrap64 ((wrap64 ((wrap64 (a0_3 + a0_1)) - a0_1)) - a0_2)))))) w.heap.size (fun k_ => k_ ≠ gb256 ∧ k_ ≠ gb260) u6 x6_1) := ⟨by (with_reducible repeat (first | apply Kd.R_alloc | apply Kd.R_drewN | apply Kd.R_drew)); exact Kd.R_mono (Kd.R_far (p := ⟨gb260, 2, none⟩) (Kd.R_far (p := ⟨gb260, 1, none⟩) (Kd.R_far (p := ⟨gb260, 0, none⟩) (Kd.R_far (p := ⟨gb260, 4, none⟩) (Kd.R_far (p := ⟨gb260, 3, none⟩) (Kd.R_far (p := ⟨gb260, 2, none⟩) (Kd.R_far (p := ⟨gb260, 1, none⟩) (Kd.R_far (p := ⟨gb260, 0, none⟩) (Kd.R_mono HO_6.out (fun k_ hk => (⟨hk, hk.2⟩ : _ ∧ k_ ≠ gb260))) (fun _ hk => hk.2) (.int .i64 0)) (fun _ hk => hk.2) (.int .i64 0)) (fun _ hk => hk.2) (.int .i64 0)) (fun _ hk => hk.2) (.int .i64 0)) (fun _ hk => hk.2) (.int .i64 (wrap64 (x257004_1 * (wrap64 (a0_3 + a0_1)))))) (fun _ hk => hk.2) (.int .i64 (wrap64 ((wrap64 (x257000_1 * (wrap64 (a0_3 + a0_1)))) + x257002_1)))) (fun _ hk => hk.2) (.int .i64 (wrap64 ((wrap64 (x257001_1 * (wrap64 (a0_3 + a0_1)))) + (wrap64 ((wrap64 (-a0_3)) * x257002_1)))))) (fun _ hk => hk.2) (.int .i64 (wrap64 (x257002_1 * (wrap64 ((wrap64 ((wrap64 (a0_3 + a0_1)) - a0_1)) - a0_2)))))) (fun _ hk => ⟨hk.1.1, hk.1.2⟩)⟩
      have n1_ : Aside0 (((((((((w17.setCell ⟨gb260, 0, none⟩ (.int .i64 0)).setCell ⟨gb260, 1, none⟩ (.int .i64 0)).setCell ⟨gb260, 2, none⟩ (.int .i64 0)).setCell ⟨gb260, 3, none⟩ (.int .i64 0)).setCell ⟨gb260, 4, none⟩ (.int .i64 (wrap64 (x257004_1 * (wrap64 (a0_3 + a0_1)))))).setCell ⟨gb260, 0, none⟩ (.int .i64 (wrap64 ((wrap64 (x257000_1 * (wrap64 (a0_3 + a0_1)))) + x257002_1)))).setCell ⟨gb260, 1, none⟩ (.int .i64 (wrap64 ((wrap64 (x257001_1 * (wrap64 (a0_3 + a0_1)))) + (wrap64 ((wrap64 (-a0_3)) * x257002_1)))))).setCell ⟨gb260, 2, none⟩ (.int .i64 (wrap64 (x257002_1 * (wrap64 ((wrap64 ((wrap64 (a0_3 + a0_1)) - a0_1)) - a0_2)))))).heap[gb255]? = some (.cells #[.int .i64 a0_0, .int .i64 a0_1, .int .i64 a0_2, .int .i64 a0_3] 25 (0, 0))) := ⟨by (with_reducible repeat (first | refine blk_drewN ?_ _ | refine blk_drew ?_ | refine blk_alloc ?_ _)); refine blk_far ?_ NB255_260.out _; (with_reducible repeat (first | refine blk_drewN ?_ _ | refine blk_drew ?_ | refine blk_alloc ?_ _)); refine blk_far ?_ NB255_260.out _; (with_reducible repeat (first | refine blk_drewN ?_ _ | refine blk_drew ?_ | refine blk_alloc ?_ _)); refine blk_far ?_ NB255_260.out _; (with_reducible repeat (first | refine blk_drewN ?_ _ | refine blk_drew ?_ | refine blk_alloc ?_ _)); refine blk_far ?_ NB255_260.out _; (with_reducible repeat (first | refine blk_drewN ?_ _ | refine blk_drew ?_ | refine blk_alloc ?_ _)); refine blk_far ?_ NB255_260.out _; (with_reducible repeat (first | refine blk_drewN ?_ _ | refine blk_drew ?_ | refine blk_alloc ?_ _)); refine blk_far ?_ NB255_260.out _; (with_reducible repeat (first | refine blk_drewN ?_ _ | refine blk_drew ?_ | refine blk_alloc ?_ _)); refine blk_far ?_ NB255_260.out _; (with_reducible repeat (first | refine blk_drewN ?_ _ | refine blk_drew ?_ | refine blk_alloc ?_ _)); refine blk_far ?_ NB255_260.out _; (with_reducible repeat (first | refine blk_drewN ?_ _ | refine blk_drew ?_ | refine blk_alloc ?_ _)); exact BK255.out⟩
      have n2_ : Aside0 (((((((((w17.setCell ⟨gb260, 0, none⟩ (.int .i64 0)).setCell ⟨gb260, 1, none⟩ (.int .i64 0)).setCell ⟨gb260, 2, none⟩ (.int .i64 0)).setCell ⟨gb260, 3, none⟩ (.int .i64 0)).setCell ⟨gb260, 4, none⟩ (.int .i64 (wrap64 (x257004_1 * (wrap64 (a0_3 + a0_1)))))).setCell ⟨gb260, 0, none⟩ (.int .i64 (wrap64 ((wrap64 (x257000_1 * (wrap64 (a0_3 + a0_1)))) + x257002_1)))).setCell ⟨gb260, 1, none⟩ (.int .i64 (wrap64 ((wrap64 (x257001_1 * (wrap64 (a0_3 + a0_1)))) + (wrap64 ((wrap64 (-a0_3)) * x257002_1)))))).setCell ⟨gb260, 2, none⟩ (.int .i64 (wrap64 (x257002_1 * (wrap64 ((wrap64 ((wrap64 (a0_3 + a0_1)) - a0_1)) - a0_2)))))).heap[gb256]? = some (.cells #[.int .i64 x257000_1, .int .i64 x257001_1, .int .i64 x257002_1, .int .i64 x257003_1, .int .i64 x257004_1] 66 (0, 0))) := ⟨by (with_reducible repeat (first | refine blk_drewN ?_ _ | refine blk_drew ?_ | refine blk_alloc ?_ _)); refine blk_far ?_ NB256_260.out _; (with_reducible repeat (first | refine blk_drewN ?_ _ | refine blk_drew ?_ | refine blk_alloc ?_ _)); refine blk_far ?_ NB256_260.out _; (with_reducible repeat (first | refine blk_drewN ?_ _ | refine blk_drew ?_ | refine blk_alloc ?_ _)); refine blk_far ?_ NB256_260.out _; (with_reducible repeat (first | refine blk_drewN ?_ _ | refine blk_drew ?_ | refine blk_alloc ?_ _)); refine blk_far ?_ NB256_260.out _; (with_reducible repeat (first | refine blk_drewN ?_ _ | refine blk_drew ?_ | refine blk_alloc ?_ _)); refine blk_far ?_ NB256_260.out _; (with_reducible repeat (first | refine blk_drewN ?_ _ | refine blk_drew ?_ | refine blk_alloc ?_ _)); refine blk_far ?_ NB256_260.out _; (with_reducible repeat (first | refine blk_drewN ?_ _ | refine blk_drew ?_ | refine blk_alloc ?_ _)); refine blk_far ?_ NB256_260.out _; (with_reducible repeat (first | refine blk_drewN ?_ _ | refine blk_drew ?_ | refine blk_alloc ?_ _)); refine blk_far ?_ NB256_260.out _; (with_reducible repeat (first | refine blk_drewN ?_ _ | refine blk_drew ?_ | refine blk_alloc ?_ _)); exact BK256.out⟩
      have n3_ : Aside0 (((((((((w17.setCell ⟨gb260, 0, none⟩ (.int .i64 0)).setCell ⟨gb260, 1, none⟩ (.int .i64 0)).setCell ⟨gb260, 2, none⟩ (.int .i64 0)).setCell ⟨gb260, 3, none⟩ (.int .i64 0)).setCell ⟨gb260, 4, none⟩ (.int .i64 (wrap64 (x257004_1 * (wrap64 (a0_3 + a0_1)))))).setCell ⟨gb260, 0, none⟩ (.int .i64 (wrap64 ((wrap64 (x257000_1 * (wrap64 (a0_3 + a0_1)))) + x257002_1)))).setCell ⟨gb260, 1, none⟩ (.int .i64 (wrap64 ((wrap64 (x257001_1 * (wrap64 (a0_3 + a0_1)))) + (wrap64 ((wrap64 (-a0_3)) * x257002_1)))))).setCell ⟨gb260, 2, none⟩ (.int .i64 (wrap64 (x257002_1 * (wrap64 ((wrap64 ((wrap64 (a0_3 + a0_1)) - a0_1)) - a0_2)))))).heap[gb260]? = some (.cells #[.int .i64 (wrap64 ((wrap64 (x257000_1 * (wrap64 (a0_3 + a0_1)))) + x257002_1)), .int .i64 (wrap64 ((wrap64 (x257001_1 * (wrap64 (a0_3 + a0_1)))) + (wrap64 ((wrap64 (-a0_3)) * x257002_1)))), .int .i64 (wrap64 (x257002_1 * (wrap64 ((wrap64 ((wrap64 (a0_3 + a0_1)) - a0_1)) - a0_2)))), .int .i64 0, .int .i64 (wrap64 (x257004_1 * (wrap64 (a0_3 + a0_1))))] 66 (0, 0))) := ⟨by (with_reducible repeat (first | refine blk_drewN ?_ _ | refine blk_drew ?_ | refine blk_alloc ?_ _)); refine blk_put (cs := #[.int .i64 (wrap64 ((wrap64 (x257000_1 * (wrap64 (a0_3 + a0_1)))) + x257002_1)), .int .i64 (wrap64 ((wrap64 (x257001_1 * (wrap64 (a0_3 + a0_1)))) + (wrap64 ((wrap64 (-a0_3)) * x257002_1)))), .int .i64 0, .int .i64 0, .int .i64 (wrap64 (x257004_1 * (wrap64 (a0_3 + a0_1))))]) ?_ 2 _ rfl; (with_reducible repeat (first | refine blk_drewN ?_ _ | refine blk_drew ?_ | refine blk_alloc ?_ _)); refine blk_put (cs := #[.int .i64 (wrap64 ((wrap64 (x257000_1 * (wrap64 (a0_3 + a0_1)))) + x257002_1)), .int .i64 0, .int .i64 0, .int .i64 0, .int .i64 (wrap64 (x257004_1 * (wrap64 (a0_3 + a0_1))))]) ?_ 1 _ rfl; (with_reducible repeat (first | refine blk_drewN ?_ _ | refine blk_drew ?_ | refine blk_alloc ?_ _)); refine blk_put (cs := #[.int .i64 0, .int .i64 0, .int .i64 0, .int .i64 0, .int .i64 (wrap64 (x257004_1 * (wrap64 (a0_3 + a0_1))))]) ?_ 0 _ rfl; (with_reducible repeat (first | refine blk_drewN ?_ _ | refine blk_drew ?_ | refine blk_alloc ?_ _)); refine blk_put (cs := #[.int .i64 0, .int .i64 0, .int .i64 0, .int .i64 0, .int .i64 0]) ?_ 4 _ rfl; (with_reducible repeat (first | refine blk_drewN ?_ _ | refine blk_drew ?_ | refine blk_alloc ?_ _)); refine blk_put (cs := #[.int .i64 0, .int .i64 0, .int .i64 0, .int .i64 0, .int .i64 0]) ?_ 3 _ rfl; (with_reducible repeat (first | refine blk_drewN ?_ _ | refine blk_drew ?_ | refine blk_alloc ?_ _)); refine blk_put (cs := #[.int .i64 0, .int .i64 0, .int .i64 0, .int .i64 0, .int .i64 0]) ?_ 2 _ rfl; (with_reducible repeat (first | refine blk_drewN ?_ _ | refine blk_drew ?_ | refine blk_alloc ?_ _)); refine blk_put (cs := #[.int .i64 0, .int .i64 0, .int .i64 0, .int .i64 0, .int .i64 0]) ?_ 1 _ rfl; (with_reducible repeat (first | refine blk_drewN ?_ _ | refine blk_drew ?_ | refine blk_alloc ?_ _)); refine blk_put (cs := #[.int .i64 0, .int .i64 0, .int .i64 0, .int .i64 0, .int .i64 0]) ?_ 0 _ rfl; (with_reducible repeat (first | refine blk_drewN ?_ _ | refine blk_drew ?_ | refine blk_alloc ?_ _)); exact BK260.out⟩
      have n4_ : Aside0 (Below w.heap.size w ((((((((w17.setCell ⟨gb260, 0, none⟩ (.int .i64 0)).setCell ⟨gb260, 1, none⟩ (.int .i64 0)).setCell ⟨gb260, 2, none⟩ (.int .i64 0)).setCell ⟨gb260, 3, none⟩ (.int .i64 0)).setCell ⟨gb260, 4, none⟩ (.int .i64 (wrap64 (x257004_1 * (wrap64 (a0_3 + a0_1)))))).setCell ⟨gb260, 0, none⟩ (.int .i64 (wrap64 ((wrap64 (x257000_1 * (wrap64 (a0_3 + a0_1)))) + x257002_1)))).setCell ⟨gb260, 1, none⟩ (.int .i64 (wrap64 ((wrap64 (x257001_1 * (wrap64 (a0_3 + a0_1)))) + (wrap64 ((wrap64 (-a0_3)) * x257002_1)))))).setCell ⟨gb260, 2, none⟩ (.int .i64 (wrap64 (x257002_1 * (wrap64 ((wrap64 ((wrap64 (a0_3 + a0_1)) - a0_1)) - a0_2))))))) := ⟨bw_⟩
      (try clear HO_6)
      (try clear BK255)
      (try clear BK256)
      (try clear BK260)
      (try clear HB)
      generalize ((((((((w17.setCell ⟨gb260, 0, none⟩ (.int .i64 0)).setCell ⟨gb260, 1, none⟩ (.int .i64 0)).setCell ⟨gb260, 2, none⟩ (.int .i64 0)).setCell ⟨gb260, 3, none⟩ (.int .i64 0)).setCell ⟨gb260, 4, none⟩ (.int .i64 (wrap64 (x257004_1 * (wrap64 (a0_3 + a0_1)))))).setCell ⟨gb260, 0, none⟩ (.int .i64 (wrap64 ((wrap64 (x257000_1 * (wrap64 (a0_3 + a0_1)))) + x257002_1)))).setCell ⟨gb260, 1, none⟩ (.int .i64 (wrap64 ((wrap64 (x257001_1 * (wrap64 (a0_3 + a0_1)))) + (wrap64 ((wrap64 (-a0_3)) * x257002_1)))))).setCell ⟨gb260, 2, none⟩ (.int .i64 (wrap64 (x257002_1 * (wrap64 ((wrap64 ((wrap64 (a0_3 + a0_1)) - a0_1)) - a0_2)))))) = w23 at n0_ n1_ n2_ n3_ n4_ ⊢
      have HO_6 := n0_
      have BK255 := n1_
      have BK256 := n2_
      have BK260 := n3_
      have HB := n4_
      clear n0_ n1_ n2_ n3_ n4_
      have n0_ := Aside0.mk (Kd.R_drew HO_6.out)
      have n1_ := Aside0.mk (blk_drew BK255.out)
      have n2_ := Aside0.mk (blk_drew BK256.out)
      have n3_ := Aside0.mk (blk_drew BK260.out)
      have n4_ := Aside0.mk (below_drew1 HB.out)
      clear HO_6
      clear BK255
      clear BK256
      clear BK260
      clear HB
      have HO_6 := n0_
      have BK255 := n1_
      have BK256 := n2_
      have BK260 := n3_
      have HB := n4_
      clear n0_ n1_ n2_ n3_ n4_
      refine start_ (n := 12) (S := fun w' => w'.cell? ⟨gb256, 0, none⟩ = some (.int .i64 x257000_1) ∧ w'.cell? ⟨gb256, 1, none⟩ = some (.int .i64 x257001_1) ∧ w'.cell? ⟨gb256, 2, none⟩ = some (.int .i64 x257002_1) ∧ w'.cell? ⟨gb256, 3, none⟩ = some (.int .i64 x257003_1) ∧ w'.cell? ⟨gb256, 4, none⟩ = some (.int .i64 x257004_1)) (ds := []) #[false, false, false, false, false, false, false, false, false, false, false, false] (by kernel_rfl) rfl rfl ⟨(blk_cell BK256.out 0).trans rfl, (blk_cell BK256.out 1).trans rfl, (blk_cell BK256.out 2).trans rfl, (blk_cell BK256.out 3).trans rfl, (blk_cell BK256.out 4).trans rfl⟩ (fun hHeld => ?_); refine with_tabW spec_doRun.tab15 spec_doRun.bits15 (fun HT_ HW_ => ?_)
      generalize w23.drew = w24 at HO_6 BK255 BK256 BK260 HB hHeld ⊢
      refine pu_ 0 73 12 1 ?_
      refine pu_ 2 75 12 5 ?_
      refine pu_ 4 77 12 21 ?_
      refine pu_ 6 79 12 85 ?_
      refine tk_ 1 74 12 87 hHeld ?_
      refine pu_ 3 76 12 95 ?_
      refine tk_ 7 80 12 223 hHeld ?_
      refine one_ (i := 5) (N := some 78) (pm_ 12 255) rfl rfl (one_of HT_.out (by kernel_rfl)) (by decide) (fun K hK => ?_)
      refine goes_ Tryz.func38 (by kernel_rfl) rfl #[.int .i64 0, .int .i64 (wrap64 (-a0_3))] (by rfl) rfl rfl (by (try simp only [List.map_toArray, List.map_cons, List.map_nil]); first | done | rfl | (simp only [List.length_drop, List.length_take]; rfl)) ?_
      with_reducible refine (spec_l1Most.calls 0 (wrap64 (-a0_3)) t261 _ A12.out).mono ?_
      rintro e w' ⟨rfl, ⟨nd, rfl⟩⟩
      refine ⟨_, rfl, ?_⟩
      refine hK.out _ _ ⟨(blk_cell BK256.out 0).trans rfl, (blk_cell BK256.out 1).trans rfl, (blk_cell BK256.out 2).trans rfl, (blk_cell BK256.out 3).trans rfl, (blk_cell BK256.out 4).trans rfl⟩ (fun hHeld => ?_)
      clear hK K
      refine norm_ (a' := ?_) ?_ ?_
      rotate_left
      ·
       show Act.put _ (some 78) _ = _
       simp only [Act.put, List.setIfInBounds_toArray, List.set_cons_zero, List.set_cons_succ, i64_w, i32_w]
       rfl
      refine pu_ 8 81 12 511 ?_
      refine pu_ 9 82 12 1023 ?_
      refine pu_ 10 83 12 2047 ?_
      refine one_ (i := 11) (N := none) (pm_ 12 4095) rfl rfl (one_of HT_.out (by kernel_rfl)) (by decide) (fun K hK => ?_)
      have hs25 : w24.cell? ⟨gb260, 3, none⟩ = some (.int .i64 0) := (blk_cell BK260.out 3).trans rfl
      have hfs25 := blk_frozen BK260.out 3
      have hns25_0 := NB255_260.out
      have hns25_1 := NB256_260.out
      have hms25_0 := NB260_255.out
      have hms25_1 := NB260_256.out
      refine skip_ (w1 := ?_) (by rfl) rfl ?_ ?_
      rotate_left
      ·
       go_simp
       rfl
      refine hK.out _ _ ⟨((cell_far (p := ⟨gb260, _, none⟩) NB256_260.out _).trans (hHeld.1)), ((cell_far (p := ⟨gb260, _, none⟩) NB256_260.out _).trans (hHeld.2.1)), ((cell_far (p := ⟨gb260, _, none⟩) NB256_260.out _).trans (hHeld.2.2.1)), ((cell_far (p := ⟨gb260, _, none⟩) NB256_260.out _).trans (hHeld.2.2.2.1)), ((cell_far (p := ⟨gb260, _, none⟩) NB256_260.out _).trans (hHeld.2.2.2.2))⟩ (fun hHeld => ?_)
      clear hK K
      refine done_ (done_of HT_.out (by kernel_rfl)) ?_
      have hcz26_0 : w24.cell? ⟨gb260, 0, none⟩ = some (.int .i64 (wrap64 ((wrap64 (x257000_1 * (wrap64 (a0_3 + a0_1)))) + x257002_1))) := (blk_cell BK260.out 0).trans rfl
      have hcz26_1 : w24.cell? ⟨gb260, 1, none⟩ = some (.int .i64 (wrap64 ((wrap64 (x257001_1 * (wrap64 (a0_3 + a0_1)))) + (wrap64 ((wrap64 (-a0_3)) * x257002_1))))) := (blk_cell BK260.out 1).trans rfl
      have hcz26_2 : w24.cell? ⟨gb260, 2, none⟩ = some (.int .i64 (wrap64 (x257002_1 * (wrap64 ((wrap64 ((wrap64 (a0_3 + a0_1)) - a0_1)) - a0_2))))) := (blk_cell BK260.out 2).trans rfl
      have hcz26_3 : w24.cell? ⟨gb260, 3, none⟩ = some (.int .i64 0) := (blk_cell BK260.out 3).trans rfl
      have hcz26_4 : w24.cell? ⟨gb260, 4, none⟩ = some (.int .i64 (wrap64 (x257004_1 * (wrap64 (a0_3 + a0_1))))) := (blk_cell BK260.out 4).trans rfl
      have hfz26_0 := blk_frozen BK260.out 0
      have hfz26_1 := blk_frozen BK260.out 1
      have hfz26_2 := blk_frozen BK260.out 2
      have hfz26_3 := blk_frozen BK260.out 3
      have hfz26_4 := blk_frozen BK260.out 4
      have hcz27_0 : w24.cell? ⟨gb256, 0, none⟩ = some (.int .i64 x257000_1) := (blk_cell BK256.out 0).trans rfl
      have hcz27_1 : w24.cell? ⟨gb256, 1, none⟩ = some (.int .i64 x257001_1) := (blk_cell BK256.out 1).trans rfl
      have hcz27_2 : w24.cell? ⟨gb256, 2, none⟩ = some (.int .i64 x257002_1) := (blk_cell BK256.out 2).trans rfl
      have hcz27_3 : w24.cell? ⟨gb256, 3, none⟩ = some (.int .i64 x257003_1) := (blk_cell BK256.out 3).trans rfl
      have hcz27_4 : w24.cell? ⟨gb256, 4, none⟩ = some (.int .i64 x257004_1) := (blk_cell BK256.out 4).trans rfl
      have hfz27_0 := blk_frozen BK256.out 0
      have hfz27_1 := blk_frozen BK256.out 1
      have hfz27_2 := blk_frozen BK256.out 2
      have hfz27_3 := blk_frozen BK256.out 3
      have hfz27_4 := blk_frozen BK256.out 4
      try go_wp2_with (first | ((with_reducible refine gate_builtin (b := .append) (xs := #[.tmp 85, .tmp 87]) rfl ?_); at_builtin; refine Kd.R_append k66 (w0 := w) w.heap.size rfl (.tmp 85) (.tmp 87) 67 66 (.agg #[(.int .i64 0), (.int .i64 0), (.int .i64 0), (.int .i64 0), (.int .i64 0)]) 40 rfl Tryz.underlying67 info66 rfl (by decide) (by omega) u6 x6_1 (⟨wrap64 ((wrap64 (x257000_1 * (wrap64 (a0_3 + a0_1)))) + x257002_1), wrap64 ((wrap64 (x257001_1 * (wrap64 (a0_3 + a0_1)))) + (wrap64 ((wrap64 (-a0_3)) * x257002_1))), wrap64 (x257002_1 * (wrap64 ((wrap64 ((wrap64 (a0_3 + a0_1)) - a0_1)) - a0_2))), wrap64 ((wrap64 (x257003_1 * (wrap64 (a0_3 + a0_1)))) + (wrap64 (t261 * x257002_1))), wrap64 (x257004_1 * (wrap64 (a0_3 + a0_1)))⟩ : S66) [.int .i64 (wrap64 ((wrap64 (x257000_1 * (wrap64 (a0_3 + a0_1)))) + x257002_1)), .int .i64 (wrap64 ((wrap64 (x257001_1 * (wrap64 (a0_3 + a0_1)))) + (wrap64 ((wrap64 (-a0_3)) * x257002_1)))), .int .i64 (wrap64 (x257002_1 * (wrap64 ((wrap64 ((wrap64 (a0_3 + a0_1)) - a0_1)) - a0_2)))), .int .i64 (wrap64 ((wrap64 (x257003_1 * (wrap64 (a0_3 + a0_1)))) + (wrap64 (t261 * x257002_1)))), .int .i64 (wrap64 (x257004_1 * (wrap64 (a0_3 + a0_1))))] (fun k_ => k_ ≠ gb256 ∧ k_ ≠ gb260) (fun _ => False) rfl (by first | (go_simp; done) | (go_simp; rfl)) ?aP (fun _ hk => hk.elim) ?aF ?aO ?aB ?aS ?aL ?_; (case aP => exact k66_mkM _ _ _ (⟨wrap64 ((wrap64 (x257000_1 * (wrap64 (a0_3 + a0_1)))) + x257002_1), wrap64 ((wrap64 (x257001_1 * (wrap64 (a0_3 + a0_1)))) + (wrap64 ((wrap64 (-a0_3)) * x257002_1))), wrap64 (x257002_1 * (wrap64 ((wrap64 ((wrap64 (a0_3 + a0_1)) - a0_1)) - a0_2))), wrap64 ((wrap64 (x257003_1 * (wrap64 (a0_3 + a0_1)))) + (wrap64 (t261 * x257002_1))), wrap64 (x257004_1 * (wrap64 (a0_3 + a0_1)))⟩ : S66)); (case aB => exact bw_); (case aF => exact (fun k_ hk => ⟨Kd.freshB (g := gb256) (o := .cells #[.int .i64 (wrap64 ((wrap64 (x257000_1 * (wrap64 (a0_3 + a0_1)))) + x257002_1)), .int .i64 (wrap64 ((wrap64 (x257001_1 * (wrap64 (a0_3 + a0_1)))) + (wrap64 ((wrap64 (-a0_3)) * x257002_1)))), .int .i64 (wrap64 (x257002_1 * (wrap64 ((wrap64 ((wrap64 (a0_3 + a0_1)) - a0_1)) - a0_2)))), .int .i64 (wrap64 ((wrap64 (x257003_1 * (wrap64 (a0_3 + a0_1)))) + (wrap64 (t261 * x257002_1)))), .int .i64 (wrap64 (x257004_1 * (wrap64 (a0_3 + a0_1))))] 66 (0, 0)) (by (with_reducible repeat (first | refine blk_drewN ?_ _ | refine blk_drew ?_ | refine blk_alloc ?_ _)); refine blk_put (cs := #[.int .i64 (wrap64 ((wrap64 (x257000_1 * (wrap64 (a0_3 + a0_1)))) + x257002_1)), .int .i64 (wrap64 ((wrap64 (x257001_1 * (wrap64 (a0_3 + a0_1)))) + (wrap64 ((wrap64 (-a0_3)) * x257002_1)))), .int .i64 (wrap64 (x257002_1 * (wrap64 ((wrap64 ((wrap64 (a0_3 + a0_1)) - a0_1)) - a0_2)))), .int .i64 (wrap64 ((wrap64 (x257003_1 * (wrap64 (a0_3 + a0_1)))) + (wrap64 (t261 * x257002_1)))), .int .i64 x257004_1]) ?_ 4 _ rfl; (with_reducible repeat (first | refine blk_drewN ?_ _ | refine blk_drew ?_ | refine blk_alloc ?_ _)); refine blk_put (cs := #[.int .i64 (wrap64 ((wrap64 (x257000_1 * (wrap64 (a0_3 + a0_1)))) + x257002_1)), .int .i64 (wrap64 ((wrap64 (x257001_1 * (wrap64 (a0_3 + a0_1)))) + (wrap64 ((wrap64 (-a0_3)) * x257002_1)))), .int .i64 (wrap64 (x257002_1 * (wrap64 ((wrap64 ((wrap64 (a0_3 + a0_1)) - a0_1)) - a0_2)))), .int .i64 x257003_1, .int .i64 x257004_1]) ?_ 3 _ rfl; (with_reducible repeat (first | refine blk_drewN ?_ _ | refine blk_drew ?_ | refine blk_alloc ?_ _)); refine blk_put (cs := #[.int .i64 (wrap64 ((wrap64 (x257000_1 * (wrap64 (a0_3 + a0_1)))) + x257002_1)), .int .i64 (wrap64 ((wrap64 (x257001_1 * (wrap64 (a0_3 + a0_1)))) + (wrap64 ((wrap64 (-a0_3)) * x257002_1)))), .int .i64 x257002_1, .int .i64 x257003_1, .int .i64 x257004_1]) ?_ 2 _ rfl; (with_reducible repeat (first | refine blk_drewN ?_ _ | refine blk_drew ?_ | refine blk_alloc ?_ _)); refine blk_put (cs := #[.int .i64 (wrap64 ((wrap64 (x257000_1 * (wrap64 (a0_3 + a0_1)))) + x257002_1)), .int .i64 x257001_1, .int .i64 x257002_1, .int .i64 x257003_1, .int .i64 x257004_1]) ?_ 1 _ rfl; (with_reducible repeat (first | refine blk_drewN ?_ _ | refine blk_drew ?_ | refine blk_alloc ?_ _)); refine blk_put (cs := #[.int .i64 x257000_1, .int .i64 x257001_1, .int .i64 x257002_1, .int .i64 x257003_1, .int .i64 x257004_1]) ?_ 0 _ rfl; (with_reducible repeat (first | refine blk_drewN ?_ _ | refine blk_drew ?_ | refine blk_alloc ?_ _)); refine blk_far ?_ NB256_260.out _; (with_reducible repeat (first | refine blk_drewN ?_ _ | refine blk_drew ?_ | refine blk_alloc ?_ _)); exact BK256.out) k_ hk, Kd.freshB (g := gb260) (o := .cells #[.int .i64 (wrap64 ((wrap64 (x257000_1 * (wrap64 (a0_3 + a0_1)))) + x257002_1)), .int .i64 (wrap64 ((wrap64 (x257001_1 * (wrap64 (a0_3 + a0_1)))) + (wrap64 ((wrap64 (-a0_3)) * x257002_1)))), .int .i64 (wrap64 (x257002_1 * (wrap64 ((wrap64 ((wrap64 (a0_3 + a0_1)) - a0_1)) - a0_2)))), .int .i64 (wrap64 ((wrap64 (x257003_1 * (wrap64 (a0_3 + a0_1)))) + (wrap64 (t261 * x257002_1)))), .int .i64 (wrap64 (x257004_1 * (wrap64 (a0_3 + a0_1))))] 66 (0, 0)) (by (with_reducible repeat (first | refine blk_drewN ?_ _ | refine blk_drew ?_ | refine blk_alloc ?_ _)); refine blk_far ?_ NB260_256.out _; (with_reducible repeat (first | refine blk_drewN ?_ _ | refine blk_drew ?_ | refine blk_alloc ?_ _)); refine blk_far ?_ NB260_256.out _; (with_reducible repeat (first | refine blk_drewN ?_ _ | refine blk_drew ?_ | refine blk_alloc ?_ _)); refine blk_far ?_ NB260_256.out _; (with_reducible repeat (first | refine blk_drewN ?_ _ | refine blk_drew ?_ | refine blk_alloc ?_ _)); refine blk_far ?_ NB260_256.out _; (with_reducible repeat (first | refine blk_drewN ?_ _ | refine blk_drew ?_ | refine blk_alloc ?_ _)); refine blk_far ?_ NB260_256.out _; (with_reducible repeat (first | refine blk_drewN ?_ _ | refine blk_drew ?_ | refine blk_alloc ?_ _)); refine blk_put (cs := #[.int .i64 (wrap64 ((wrap64 (x257000_1 * (wrap64 (a0_3 + a0_1)))) + x257002_1)), .int .i64 (wrap64 ((wrap64 (x257001_1 * (wrap64 (a0_3 + a0_1)))) + (wrap64 ((wrap64 (-a0_3)) * x257002_1)))), .int .i64 (wrap64 (x257002_1 * (wrap64 ((wrap64 ((wrap64 (a0_3 + a0_1)) - a0_1)) - a0_2)))), .int .i64 0, .int .i64 (wrap64 (x257004_1 * (wrap64 (a0_3 + a0_1))))]) ?_ 3 _ rfl; (with_reducible repeat (first | refine blk_drewN ?_ _ | refine blk_drew ?_ | refine blk_alloc ?_ _)); exact BK260.out) k_ hk⟩)); (case aO => exact (by (with_reducible repeat (first | apply Kd.R_alloc | apply Kd.R_drewN | apply Kd.R_drew)); exact Kd.R_mono (Kd.R_far (p := ⟨gb256, 4, none⟩) (Kd.R_far (p := ⟨gb256, 3, none⟩) (Kd.R_far (p := ⟨gb256, 2, none⟩) (Kd.R_far (p := ⟨gb256, 1, none⟩) (Kd.R_far (p := ⟨gb256, 0, none⟩) (Kd.R_far (p := ⟨gb260, 3, none⟩) (Kd.R_mono (Kd.R_mono HO_6.out (fun k_ hk => (⟨hk, hk.2⟩ : _ ∧ k_ ≠ gb260))) (fun k_ hk => (⟨hk, hk.1.1⟩ : _ ∧ k_ ≠ gb256))) (fun _ hk => hk.1.2) (.int .i64 (wrap64 ((wrap64 (x257003_1 * (wrap64 (a0_3 + a0_1)))) + (wrap64 (t261 * x257002_1)))))) (fun _ hk => hk.2) (.int .i64 (wrap64 ((wrap64 (x257000_1 * (wrap64 (a0_3 + a0_1)))) + x257002_1)))) (fun _ hk => hk.2) (.int .i64 (wrap64 ((wrap64 (x257001_1 * (wrap64 (a0_3 + a0_1)))) + (wrap64 ((wrap64 (-a0_3)) * x257002_1)))))) (fun _ hk => hk.2) (.int .i64 (wrap64 (x257002_1 * (wrap64 ((wrap64 ((wrap64 (a0_3 + a0_1)) - a0_1)) - a0_2)))))) (fun _ hk => hk.2) (.int .i64 (wrap64 ((wrap64 (x257003_1 * (wrap64 (a0_3 + a0_1)))) + (wrap64 (t261 * x257002_1)))))) (fun _ hk => hk.2) (.int .i64 (wrap64 (x257004_1 * (wrap64 (a0_3 + a0_1)))))) (fun _ hk => ⟨hk.1.1.1, hk.1.1.2⟩))); (case aS => exact (below_size bw_)); (case aL => have := LMc13.out; omega); intro v263 w28 ho hb hg hat; rw [← Ny262.out] at ho; have n0_ := Aside0.mk (blk_grown (g := gb255) (o := .cells #[.int .i64 a0_0, .int .i64 a0_1, .int .i64 a0_2, .int .i64 a0_3] 25 (0, 0)) bf_ hg (Kd.R_ne HO_6.out BK255.out (by decide))); have n1_ := Aside0.mk (blk_grown (g := gb256) (o := .cells #[.int .i64 (wrap64 ((wrap64 (x257000_1 * (wrap64 (a0_3 + a0_1)))) + x257002_1)), .int .i64 (wrap64 ((wrap64 (x257001_1 * (wrap64 (a0_3 + a0_1)))) + (wrap64 ((wrap64 (-a0_3)) * x257002_1)))), .int .i64 (wrap64 (x257002_1 * (wrap64 ((wrap64 ((wrap64 (a0_3 + a0_1)) - a0_1)) - a0_2)))), .int .i64 (wrap64 ((wrap64 (x257003_1 * (wrap64 (a0_3 + a0_1)))) + (wrap64 (t261 * x257002_1)))), .int .i64 (wrap64 (x257004_1 * (wrap64 (a0_3 + a0_1))))] 66 (0, 0)) (by (with_reducible repeat (first | refine blk_drewN ?_ _ | refine blk_drew ?_ | refine blk_alloc ?_ _)); refine blk_put (cs := #[.int .i64 (wrap64 ((wrap64 (x257000_1 * (wrap64 (a0_3 + a0_1)))) + x257002_1)), .int .i64 (wrap64 ((wrap64 (x257001_1 * (wrap64 (a0_3 + a0_1)))) + (wrap64 ((wrap64 (-a0_3)) * x257002_1)))), .int .i64 (wrap64 (x257002_1 * (wrap64 ((wrap64 ((wrap64 (a0_3 + a0_1)) - a0_1)) - a0_2)))), .int .i64 (wrap64 ((wrap64 (x257003_1 * (wrap64 (a0_3 + a0_1)))) + (wrap64 (t261 * x257002_1)))), .int .i64 x257004_1]) ?_ 4 _ rfl; (with_reducible repeat (first | refine blk_drewN ?_ _ | refine blk_drew ?_ | refine blk_alloc ?_ _)); refine blk_put (cs := #[.int .i64 (wrap64 ((wrap64 (x257000_1 * (wrap64 (a0_3 + a0_1)))) + x257002_1)), .int .i64 (wrap64 ((wrap64 (x257001_1 * (wrap64 (a0_3 + a0_1)))) + (wrap64 ((wrap64 (-a0_3)) * x257002_1)))), .int .i64 (wrap64 (x257002_1 * (wrap64 ((wrap64 ((wrap64 (a0_3 + a0_1)) - a0_1)) - a0_2)))), .int .i64 x257003_1, .int .i64 x257004_1]) ?_ 3 _ rfl; (with_reducible repeat (first | refine blk_drewN ?_ _ | refine blk_drew ?_ | refine blk_alloc ?_ _)); refine blk_put (cs := #[.int .i64 (wrap64 ((wrap64 (x257000_1 * (wrap64 (a0_3 + a0_1)))) + x257002_1)), .int .i64 (wrap64 ((wrap64 (x257001_1 * (wrap64 (a0_3 + a0_1)))) + (wrap64 ((wrap64 (-a0_3)) * x257002_1)))), .int .i64 x257002_1, .int .i64 x257003_1, .int .i64 x257004_1]) ?_ 2 _ rfl; (with_reducible repeat (first | refine blk_drewN ?_ _ | refine blk_drew ?_ | refine blk_alloc ?_ _)); refine blk_put (cs := #[.int .i64 (wrap64 ((wrap64 (x257000_1 * (wrap64 (a0_3 + a0_1)))) + x257002_1)), .int .i64 x257001_1, .int .i64 x257002_1, .int .i64 x257003_1, .int .i64 x257004_1]) ?_ 1 _ rfl; (with_reducible repeat (first | refine blk_drewN ?_ _ | refine blk_drew ?_ | refine blk_alloc ?_ _)); refine blk_put (cs := #[.int .i64 x257000_1, .int .i64 x257001_1, .int .i64 x257002_1, .int .i64 x257003_1, .int .i64 x257004_1]) ?_ 0 _ rfl; (with_reducible repeat (first | refine blk_drewN ?_ _ | refine blk_drew ?_ | refine blk_alloc ?_ _)); refine blk_far ?_ NB256_260.out _; (with_reducible repeat (first | refine blk_drewN ?_ _ | refine blk_drew ?_ | refine blk_alloc ?_ _)); exact BK256.out) hg (Kd.R_away HO_6.out (fun _ hk => hk.1))); have n2_ := Aside0.mk (blk_grown (g := gb260) (o := .cells #[.int .i64 (wrap64 ((wrap64 (x257000_1 * (wrap64 (a0_3 + a0_1)))) + x257002_1)), .int .i64 (wrap64 ((wrap64 (x257001_1 * (wrap64 (a0_3 + a0_1)))) + (wrap64 ((wrap64 (-a0_3)) * x257002_1)))), .int .i64 (wrap64 (x257002_1 * (wrap64 ((wrap64 ((wrap64 (a0_3 + a0_1)) - a0_1)) - a0_2)))), .int .i64 (wrap64 ((wrap64 (x257003_1 * (wrap64 (a0_3 + a0_1)))) + (wrap64 (t261 * x257002_1)))), .int .i64 (wrap64 (x257004_1 * (wrap64 (a0_3 + a0_1))))] 66 (0, 0)) (by (with_reducible repeat (first | refine blk_drewN ?_ _ | refine blk_drew ?_ | refine blk_alloc ?_ _)); refine blk_far ?_ NB260_256.out _; (with_reducible repeat (first | refine blk_drewN ?_ _ | refine blk_drew ?_ | refine blk_alloc ?_ _)); refine blk_far ?_ NB260_256.out _; (with_reducible repeat (first | refine blk_drewN ?_ _ | refine blk_drew ?_ | refine blk_alloc ?_ _)); refine blk_far ?_ NB260_256.out _; (with_reducible repeat (first | refine blk_drewN ?_ _ | refine blk_drew ?_ | refine blk_alloc ?_ _)); refine blk_far ?_ NB260_256.out _; (with_reducible repeat (first | refine blk_drewN ?_ _ | refine blk_drew ?_ | refine blk_alloc ?_ _)); refine blk_far ?_ NB260_256.out _; (with_reducible repeat (first | refine blk_drewN ?_ _ | refine blk_drew ?_ | refine blk_alloc ?_ _)); refine blk_put (cs := #[.int .i64 (wrap64 ((wrap64 (x257000_1 * (wrap64 (a0_3 + a0_1)))) + x257002_1)), .int .i64 (wrap64 ((wrap64 (x257001_1 * (wrap64 (a0_3 + a0_1)))) + (wrap64 ((wrap64 (-a0_3)) * x257002_1)))), .int .i64 (wrap64 (x257002_1 * (wrap64 ((wrap64 ((wrap64 (a0_3 + a0_1)) - a0_1)) - a0_2)))), .int .i64 0, .int .i64 (wrap64 (x257004_1 * (wrap64 (a0_3 + a0_1))))]) ?_ 3 _ rfl; (with_reducible repeat (first | refine blk_drewN ?_ _ | refine blk_drew ?_ | refine blk_alloc ?_ _)); exact BK260.out) hg (Kd.R_away HO_6.out (fun _ hk => hk.2))); have n3_ := Aside0.mk (hb); have n4_ := Aside0.mk (ho); clear BK255; clear BK256; clear BK260; clear HB; clear HO_6; have BK255 := n0_; have BK256 := n1_; have BK260 := n2_; have HB := n3_; have HO264 := n4_; clear n0_ n1_ n2_ n3_ n4_; clear ho hb hg hat))
      go_roundg k1
      case measure => have := HK1.out; omega
      case rel => exact ⟨(y262), (wrap64 (x7_1 + 1)), (wrap64 ((wrap64 (x257000_1 * (wrap64 (a0_3 + a0_1)))) + x257002_1)), (wrap64 ((wrap64 (x257001_1 * (wrap64 (a0_3 + a0_1)))) + (wrap64 ((wrap64 (-a0_3)) * x257002_1)))), (wrap64 (x257002_1 * (wrap64 ((wrap64 ((wrap64 (a0_3 + a0_1)) - a0_1)) - a0_2)))), (wrap64 ((wrap64 (x257003_1 * (wrap64 (a0_3 + a0_1)))) + (wrap64 (t261 * x257002_1)))), (wrap64 (x257004_1 * (wrap64 (a0_3 + a0_1)))), (rs_), H', ⟨by have := HK1.out; omega⟩, ⟨by (with_reducible repeat (first | apply Kd.R_alloc | apply Kd.R_drewN | apply Kd.R_drew)); exact Kd.R_mono HO264.out (fun _ hk => hk.1)⟩, ⟨bk_⟩, ⟨bk_⟩, ⟨bw_⟩⟩
     ·
      rw [if_neg c13] at H
      exact absurd H (by simp)
    ·
     rw [if_neg c11] at H
     have c11b0 : ((Int.tmod x7_1 2) == 0) = false := beq_eq_false_iff_ne.mpr c11
     have c11b1 : ((Int.tmod x7_1 2) != 0) = true := bne_iff_ne.mpr c11
     replace H := Option.bind_eq_some_iff.mp H
     obtain ⟨t266, A290, H⟩ := H
     (try dsimp only at H)
     have A29 := Aside0.mk A290
     clear A290
     by_cases c30 : x6_1.length < 3518437208883
     ·
      rw [if_pos c30] at H
      have LMc30 := Aside0.mk c30
      clear c30
      obtain ⟨y267, hy267⟩ : ∃ y_ : List (S66), y_ = (x6_1 ++ [(⟨wrap64 ((wrap64 (x257000_1 * (wrap64 (a0_3 + a0_2)))) + x257002_1), wrap64 ((wrap64 (x257001_1 * (wrap64 (a0_3 + a0_2)))) + (wrap64 (a0_3 * x257002_1))), wrap64 (x257002_1 * (wrap64 ((wrap64 ((wrap64 (a0_3 + a0_2)) - a0_1)) - a0_2))), wrap64 ((wrap64 (x257003_1 * (wrap64 (a0_3 + a0_2)))) + (wrap64 (t266 * x257002_1))), wrap64 (x257004_1 * (wrap64 (a0_3 + a0_2)))⟩ : S66)]) := ⟨_, rfl⟩
      replace H : (spec_doRun.l0 k1 a1 y267 (wrap64 (x7_1 + 1)) a0_0 a0_1 a0_2 a0_3 (wrap64 ((wrap64 (x257000_1 * (wrap64 (a0_3 + a0_2)))) + x257002_1)) (wrap64 ((wrap64 (x257001_1 * (wrap64 (a0_3 + a0_2)))) + (wrap64 (a0_3 * x257002_1)))) (wrap64 (x257002_1 * (wrap64 ((wrap64 ((wrap64 (a0_3 + a0_2)) - a0_1)) - a0_2)))) (wrap64 ((wrap64 (x257003_1 * (wrap64 (a0_3 + a0_2)))) + (wrap64 (t266 * x257002_1)))) (wrap64 (x257004_1 * (wrap64 (a0_3 + a0_2))))) = some r := by first | (rw [hy267]; with_reducible exact H) | (have H2_ := (Option.bind_some _ _).symm.trans H; rw [hy267]; with_reducible exact H2_) | (have H2_ := (Option.bind_some _ _).symm.trans H; with_reducible exact H2_) | with_reducible exact H | (rw [hy267]; exact H) | exact H
      have Ny267 := Aside0.mk hy267
      clear hy267
      have H' := Aside0.mk H
      clear H
      have hnb31 := NB255_256.out
      have hnc31 := NB256_255.out
      obtain ⟨hcz32_0, hcz32_1, hcz32_2, hcz32_3, hfz32_0, hfz32_1, hfz32_2, hfz32_3⟩ := four_ BK255.out
      have hcz33_0 : wr.cell? ⟨gb256, 0, none⟩ = some (.int .i64 x257000_1) := (blk_cell BK256.out 0).trans rfl
      have hcz33_1 : wr.cell? ⟨gb256, 1, none⟩ = some (.int .i64 x257001_1) := (blk_cell BK256.out 1).trans rfl
      have hcz33_2 : wr.cell? ⟨gb256, 2, none⟩ = some (.int .i64 x257002_1) := (blk_cell BK256.out 2).trans rfl
      have hcz33_3 : wr.cell? ⟨gb256, 3, none⟩ = some (.int .i64 x257003_1) := (blk_cell BK256.out 3).trans rfl
      have hcz33_4 : wr.cell? ⟨gb256, 4, none⟩ = some (.int .i64 x257004_1) := (blk_cell BK256.out 4).trans rfl
      have hfz33_0 := blk_frozen BK256.out 0
      have hfz33_1 := blk_frozen BK256.out 1
      have hfz33_2 := blk_frozen BK256.out 2
      have hfz33_3 := blk_frozen BK256.out 3
      have hfz33_4 := blk_frozen BK256.out 4
      try go_wp2_with (first | ((with_reducible refine gate_dst (N := 10) rfl ?_); refine be_ 10 #[.int .i64 0, .int .i64 0, .int .i64 0, .int .i64 0, .int .i64 0] 66 ?_; intro gb265 hg w34 hbox hb; have n0_ := Aside0.mk (Kd.R_below (Kd.R_elderB (by (with_reducible repeat (first | apply Kd.R_alloc | apply Kd.R_drewN | apply Kd.R_drew)); exact HO_6.out) gb265 (Nat.le_of_eq hg.symm)) hb); have n1_ := Aside0.mk (bb_ BK255.out hb); have n2_ := Aside0.mk (bb_ BK256.out hb); have n3_ := Aside0.mk (below_step bw_ hb); have n4_ := Aside0.mk (hbox); have n5_ := Aside0.mk (bz_ (w := w) hg); have n6_ := Aside0.mk (bz_ (w := w) hg); have n7_ := Aside0.mk (nl_ BK255.out hg); have n8_ := Aside0.mk (ng_ BK255.out hg); have n9_ := Aside0.mk (nl_ BK256.out hg); have n10_ := Aside0.mk (ng_ BK256.out hg); clear HO_6; clear BK255; clear BK256; clear HB; have HO_6 := n0_; have BK255 := n1_; have BK256 := n2_; have HB := n3_; have BK265 := n4_; have GW265 := n5_; have GE265 := n6_; have NB255_265 := n7_; have NB265_255 := n8_; have NB256_265 := n9_; have NB265_256 := n10_; clear n0_ n1_ n2_ n3_ n4_ n5_ n6_ n7_ n8_ n9_ n10_; clear hb hbox hg; have hnb35 := NB265_255.out; have hnc35 := NB255_265.out; have hnb36 := NB265_256.out; have hnc36 := NB256_265.out; have hcz37_0 : w34.cell? ⟨gb265, 0, none⟩ = some (.int .i64 0) := (blk_cell BK265.out 0).trans rfl; have hcz37_1 : w34.cell? ⟨gb265, 1, none⟩ = some (.int .i64 0) := (blk_cell BK265.out 1).trans rfl; have hcz37_2 : w34.cell? ⟨gb265, 2, none⟩ = some (.int .i64 0) := (blk_cell BK265.out 2).trans rfl; have hcz37_3 : w34.cell? ⟨gb265, 3, none⟩ = some (.int .i64 0) := (blk_cell BK265.out 3).trans rfl; have hcz37_4 : w34.cell? ⟨gb265, 4, none⟩ = some (.int .i64 0) := (blk_cell BK265.out 4).trans rfl; have hfz37_0 := blk_frozen BK265.out 0; have hfz37_1 := blk_frozen BK265.out 1; have hfz37_2 := blk_frozen BK265.out 2; have hfz37_3 := blk_frozen BK265.out 3; have hfz37_4 := blk_frozen BK265.out 4; have hcz38_0 : w34.cell? ⟨gb256, 0, none⟩ = some (.int .i64 x257000_1) := (blk_cell BK256.out 0).trans rfl; have hcz38_1 : w34.cell? ⟨gb256, 1, none⟩ = some (.int .i64 x257001_1) := (blk_cell BK256.out 1).trans rfl; have hcz38_2 : w34.cell? ⟨gb256, 2, none⟩ = some (.int .i64 x257002_1) := (blk_cell BK256.out 2).trans rfl; have hcz38_3 : w34.cell? ⟨gb256, 3, none⟩ = some (.int .i64 x257003_1) := (blk_cell BK256.out 3).trans rfl; have hcz38_4 : w34.cell? ⟨gb256, 4, none⟩ = some (.int .i64 x257004_1) := (blk_cell BK256.out 4).trans rfl; have hfz38_0 := blk_frozen BK256.out 0; have hfz38_1 := blk_frozen BK256.out 1; have hfz38_2 := blk_frozen BK256.out 2; have hfz38_3 := blk_frozen BK256.out 3; have hfz38_4 := blk_frozen BK256.out 4; obtain ⟨hcz39_0, hcz39_1, hcz39_2, hcz39_3, hfz39_0, hfz39_1, hfz39_2, hfz39_3⟩ := four_ BK255.out))
      have n0_ : Aside0 (Kd.R k66 66 ((((((((w34.setCell ⟨gb265, 0, none⟩ (.int .i64 0)).setCell ⟨gb265, 1, none⟩ (.int .i64 0)).setCell ⟨gb265, 2, none⟩ (.int .i64 0)).setCell ⟨gb265, 3, none⟩ (.int .i64 0)).setCell ⟨gb265, 4, none⟩ (.int .i64 (wrap64 (x257004_1 * (wrap64 (a0_3 + a0_2)))))).setCell ⟨gb265, 0, none⟩ (.int .i64 (wrap64 ((wrap64 (x257000_1 * (wrap64 (a0_3 + a0_2)))) + x257002_1)))).setCell ⟨gb265, 1, none⟩ (.int .i64 (wrap64 ((wrap64 (x257001_1 * (wrap64 (a0_3 + a0_2)))) + (wrap64 (a0_3 * x257002_1)))))).setCell ⟨gb265, 2, none⟩ (.int .i64 (wrap64 (x257002_1 * (wrap64 ((wrap64 ((wrap64 (a0_3 + a0_2)) - a0_1)) - a0_2)))))) w.heap.size (fun k_ => k_ ≠ gb256 ∧ k_ ≠ gb265) u6 x6_1) := ⟨by (with_reducible repeat (first | apply Kd.R_alloc | apply Kd.R_drewN | apply Kd.R_drew)); exact Kd.R_mono (Kd.R_far (p := ⟨gb265, 2, none⟩) (Kd.R_far (p := ⟨gb265, 1, none⟩) (Kd.R_far (p := ⟨gb265, 0, none⟩) (Kd.R_far (p := ⟨gb265, 4, none⟩) (Kd.R_far (p := ⟨gb265, 3, none⟩) (Kd.R_far (p := ⟨gb265, 2, none⟩) (Kd.R_far (p := ⟨gb265, 1, none⟩) (Kd.R_far (p := ⟨gb265, 0, none⟩) (Kd.R_mono HO_6.out (fun k_ hk => (⟨hk, hk.2⟩ : _ ∧ k_ ≠ gb265))) (fun _ hk => hk.2) (.int .i64 0)) (fun _ hk => hk.2) (.int .i64 0)) (fun _ hk => hk.2) (.int .i64 0)) (fun _ hk => hk.2) (.int .i64 0)) (fun _ hk => hk.2) (.int .i64 (wrap64 (x257004_1 * (wrap64 (a0_3 + a0_2)))))) (fun _ hk => hk.2) (.int .i64 (wrap64 ((wrap64 (x257000_1 * (wrap64 (a0_3 + a0_2)))) + x257002_1)))) (fun _ hk => hk.2) (.int .i64 (wrap64 ((wrap64 (x257001_1 * (wrap64 (a0_3 + a0_2)))) + (wrap64 (a0_3 * x257002_1)))))) (fun _ hk => hk.2) (.int .i64 (wrap64 (x257002_1 * (wrap64 ((wrap64 ((wrap64 (a0_3 + a0_2)) - a0_1)) - a0_2)))))) (fun _ hk => ⟨hk.1.1, hk.1.2⟩)⟩
      have n1_ : Aside0 (((((((((w34.setCell ⟨gb265, 0, none⟩ (.int .i64 0)).setCell ⟨gb265, 1, none⟩ (.int .i64 0)).setCell ⟨gb265, 2, none⟩ (.int .i64 0)).setCell ⟨gb265, 3, none⟩ (.int .i64 0)).setCell ⟨gb265, 4, none⟩ (.int .i64 (wrap64 (x257004_1 * (wrap64 (a0_3 + a0_2)))))).setCell ⟨gb265, 0, none⟩ (.int .i64 (wrap64 ((wrap64 (x257000_1 * (wrap64 (a0_3 + a0_2)))) + x257002_1)))).setCell ⟨gb265, 1, none⟩ (.int .i64 (wrap64 ((wrap64 (x257001_1 * (wrap64 (a0_3 + a0_2)))) + (wrap64 (a0_3 * x257002_1)))))).setCell ⟨gb265, 2, none⟩ (.int .i64 (wrap64 (x257002_1 * (wrap64 ((wrap64 ((wrap64 (a0_3 + a0_2)) - a0_1)) - a0_2)))))).heap[gb255]? = some (.cells #[.int .i64 a0_0, .int .i64 a0_1, .int .i64 a0_2, .int .i64 a0_3] 25 (0, 0))) := ⟨by (with_reducible repeat (first | refine blk_drewN ?_ _ | refine blk_drew ?_ | refine blk_alloc ?_ _)); refine blk_far ?_ NB255_265.out _; (with_reducible repeat (first | refine blk_drewN ?_ _ | refine blk_drew ?_ | refine blk_alloc ?_ _)); refine blk_far ?_ NB255_265.out _; (with_reducible repeat (first | refine blk_drewN ?_ _ | refine blk_drew ?_ | refine blk_alloc ?_ _)); refine blk_far ?_ NB255_265.out _; (with_reducible repeat (first | refine blk_drewN ?_ _ | refine blk_drew ?_ | refine blk_alloc ?_ _)); refine blk_far ?_ NB255_265.out _; (with_reducible repeat (first | refine blk_drewN ?_ _ | refine blk_drew ?_ | refine blk_alloc ?_ _)); refine blk_far ?_ NB255_265.out _; (with_reducible repeat (first | refine blk_drewN ?_ _ | refine blk_drew ?_ | refine blk_alloc ?_ _)); refine blk_far ?_ NB255_265.out _; (with_reducible repeat (first | refine blk_drewN ?_ _ | refine blk_drew ?_ | refine blk_alloc ?_ _)); refine blk_far ?_ NB255_265.out _; (with_reducible repeat (first | refine blk_drewN ?_ _ | refine blk_drew ?_ | refine blk_alloc ?_ _)); refine blk_far ?_ NB255_265.out _; (with_reducible repeat (first | refine blk_drewN ?_ _ | refine blk_drew ?_ | refine blk_alloc ?_ _)); exact BK255.out⟩
      have n2_ : Aside0 (((((((((w34.setCell ⟨gb265, 0, none⟩ (.int .i64 0)).setCell ⟨gb265, 1, none⟩ (.int .i64 0)).setCell ⟨gb265, 2, none⟩ (.int .i64 0)).setCell ⟨gb265, 3, none⟩ (.int .i64 0)).setCell ⟨gb265, 4, none⟩ (.int .i64 (wrap64 (x257004_1 * (wrap64 (a0_3 + a0_2)))))).setCell ⟨gb265, 0, none⟩ (.int .i64 (wrap64 ((wrap64 (x257000_1 * (wrap64 (a0_3 + a0_2)))) + x257002_1)))).setCell ⟨gb265, 1, none⟩ (.int .i64 (wrap64 ((wrap64 (x257001_1 * (wrap64 (a0_3 + a0_2)))) + (wrap64 (a0_3 * x257002_1)))))).setCell ⟨gb265, 2, none⟩ (.int .i64 (wrap64 (x257002_1 * (wrap64 ((wrap64 ((wrap64 (a0_3 + a0_2)) - a0_1)) - a0_2)))))).heap[gb256]? = some (.cells #[.int .i64 x257000_1, .int .i64 x257001_1, .int .i64 x257002_1, .int .i64 x257003_1, .int .i64 x257004_1] 66 (0, 0))) := ⟨by (with_reducible repeat (first | refine blk_drewN ?_ _ | refine blk_drew ?_ | refine blk_alloc ?_ _)); refine blk_far ?_ NB256_265.out _; (with_reducible repeat (first | refine blk_drewN ?_ _ | refine blk_drew ?_ | refine blk_alloc ?_ _)); refine blk_far ?_ NB256_265.out _; (with_reducible repeat (first | refine blk_drewN ?_ _ | refine blk_drew ?_ | refine blk_alloc ?_ _)); refine blk_far ?_ NB256_265.out _; (with_reducible repeat (first | refine blk_drewN ?_ _ | refine blk_drew ?_ | refine blk_alloc ?_ _)); refine blk_far ?_ NB256_265.out _; (with_reducible repeat (first | refine blk_drewN ?_ _ | refine blk_drew ?_ | refine blk_alloc ?_ _)); refine blk_far ?_ NB256_265.out _; (with_reducible repeat (first | refine blk_drewN ?_ _ | refine blk_drew ?_ | refine blk_alloc ?_ _)); refine blk_far ?_ NB256_265.out _; (with_reducible repeat (first | refine blk_drewN ?_ _ | refine blk_drew ?_ | refine blk_alloc ?_ _)); refine blk_far ?_ NB256_265.out _; (with_reducible repeat (first | refine blk_drewN ?_ _ | refine blk_drew ?_ | refine blk_alloc ?_ _)); refine blk_far ?_ NB256_265.out _; (with_reducible repeat (first | refine blk_drewN ?_ _ | refine blk_drew ?_ | refine blk_alloc ?_ _)); exact BK256.out⟩
      have n3_ : Aside0 (((((((((w34.setCell ⟨gb265, 0, none⟩ (.int .i64 0)).setCell ⟨gb265, 1, none⟩ (.int .i64 0)).setCell ⟨gb265, 2, none⟩ (.int .i64 0)).setCell ⟨gb265, 3, none⟩ (.int .i64 0)).setCell ⟨gb265, 4, none⟩ (.int .i64 (wrap64 (x257004_1 * (wrap64 (a0_3 + a0_2)))))).setCell ⟨gb265, 0, none⟩ (.int .i64 (wrap64 ((wrap64 (x257000_1 * (wrap64 (a0_3 + a0_2)))) + x257002_1)))).setCell ⟨gb265, 1, none⟩ (.int .i64 (wrap64 ((wrap64 (x257001_1 * (wrap64 (a0_3 + a0_2)))) + (wrap64 (a0_3 * x257002_1)))))).setCell ⟨gb265, 2, none⟩ (.int .i64 (wrap64 (x257002_1 * (wrap64 ((wrap64 ((wrap64 (a0_3 + a0_2)) - a0_1)) - a0_2)))))).heap[gb265]? = some (.cells #[.int .i64 (wrap64 ((wrap64 (x257000_1 * (wrap64 (a0_3 + a0_2)))) + x257002_1)), .int .i64 (wrap64 ((wrap64 (x257001_1 * (wrap64 (a0_3 + a0_2)))) + (wrap64 (a0_3 * x257002_1)))), .int .i64 (wrap64 (x257002_1 * (wrap64 ((wrap64 ((wrap64 (a0_3 + a0_2)) - a0_1)) - a0_2)))), .int .i64 0, .int .i64 (wrap64 (x257004_1 * (wrap64 (a0_3 + a0_2))))] 66 (0, 0))) := ⟨by (with_reducible repeat (first | refine blk_drewN ?_ _ | refine blk_drew ?_ | refine blk_alloc ?_ _)); refine blk_put (cs := #[.int .i64 (wrap64 ((wrap64 (x257000_1 * (wrap64 (a0_3 + a0_2)))) + x257002_1)), .int .i64 (wrap64 ((wrap64 (x257001_1 * (wrap64 (a0_3 + a0_2)))) + (wrap64 (a0_3 * x257002_1)))), .int .i64 0, .int .i64 0, .int .i64 (wrap64 (x257004_1 * (wrap64 (a0_3 + a0_2))))]) ?_ 2 _ rfl; (with_reducible repeat (first | refine blk_drewN ?_ _ | refine blk_drew ?_ | refine blk_alloc ?_ _)); refine blk_put (cs := #[.int .i64 (wrap64 ((wrap64 (x257000_1 * (wrap64 (a0_3 + a0_2)))) + x257002_1)), .int .i64 0, .int .i64 0, .int .i64 0, .int .i64 (wrap64 (x257004_1 * (wrap64 (a0_3 + a0_2))))]) ?_ 1 _ rfl; (with_reducible repeat (first | refine blk_drewN ?_ _ | refine blk_drew ?_ | refine blk_alloc ?_ _)); refine blk_put (cs := #[.int .i64 0, .int .i64 0, .int .i64 0, .int .i64 0, .int .i64 (wrap64 (x257004_1 * (wrap64 (a0_3 + a0_2))))]) ?_ 0 _ rfl; (with_reducible repeat (first | refine blk_drewN ?_ _ | refine blk_drew ?_ | refine blk_alloc ?_ _)); refine blk_put (cs := #[.int .i64 0, .int .i64 0, .int .i64 0, .int .i64 0, .int .i64 0]) ?_ 4 _ rfl; (with_reducible repeat (first | refine blk_drewN ?_ _ | refine blk_drew ?_ | refine blk_alloc ?_ _)); refine blk_put (cs := #[.int .i64 0, .int .i64 0, .int .i64 0, .int .i64 0, .int .i64 0]) ?_ 3 _ rfl; (with_reducible repeat (first | refine blk_drewN ?_ _ | refine blk_drew ?_ | refine blk_alloc ?_ _)); refine blk_put (cs := #[.int .i64 0, .int .i64 0, .int .i64 0, .int .i64 0, .int .i64 0]) ?_ 2 _ rfl; (with_reducible repeat (first | refine blk_drewN ?_ _ | refine blk_drew ?_ | refine blk_alloc ?_ _)); refine blk_put (cs := #[.int .i64 0, .int .i64 0, .int .i64 0, .int .i64 0, .int .i64 0]) ?_ 1 _ rfl; (with_reducible repeat (first | refine blk_drewN ?_ _ | refine blk_drew ?_ | refine blk_alloc ?_ _)); refine blk_put (cs := #[.int .i64 0, .int .i64 0, .int .i64 0, .int .i64 0, .int .i64 0]) ?_ 0 _ rfl; (with_reducible repeat (first | refine blk_drewN ?_ _ | refine blk_drew ?_ | refine blk_alloc ?_ _)); exact BK265.out⟩
      have n4_ : Aside0 (Below w.heap.size w ((((((((w34.setCell ⟨gb265, 0, none⟩ (.int .i64 0)).setCell ⟨gb265, 1, none⟩ (.int .i64 0)).setCell ⟨gb265, 2, none⟩ (.int .i64 0)).setCell ⟨gb265, 3, none⟩ (.int .i64 0)).setCell ⟨gb265, 4, none⟩ (.int .i64 (wrap64 (x257004_1 * (wrap64 (a0_3 + a0_2)))))).setCell ⟨gb265, 0, none⟩ (.int .i64 (wrap64 ((wrap64 (x257000_1 * (wrap64 (a0_3 + a0_2)))) + x257002_1)))).setCell ⟨gb265, 1, none⟩ (.int .i64 (wrap64 ((wrap64 (x257001_1 * (wrap64 (a0_3 + a0_2)))) + (wrap64 (a0_3 * x257002_1)))))).setCell ⟨gb265, 2, none⟩ (.int .i64 (wrap64 (x257002_1 * (wrap64 ((wrap64 ((wrap64 (a0_3 + a0_2)) - a0_1)) - a0_2))))))) := ⟨bw_⟩
      (try clear HO_6)
      (try clear BK255)
      (try clear BK256)
      (try clear BK265)
      (try clear HB)
      generalize ((((((((w34.setCell ⟨gb265, 0, none⟩ (.int .i64 0)).setCell ⟨gb265, 1, none⟩ (.int .i64 0)).setCell ⟨gb265, 2, none⟩ (.int .i64 0)).setCell ⟨gb265, 3, none⟩ (.int .i64 0)).setCell ⟨gb265, 4, none⟩ (.int .i64 (wrap64 (x257004_1 * (wrap64 (a0_3 + a0_2)))))).setCell ⟨gb265, 0, none⟩ (.int .i64 (wrap64 ((wrap64 (x257000_1 * (wrap64 (a0_3 + a0_2)))) + x257002_1)))).setCell ⟨gb265, 1, none⟩ (.int .i64 (wrap64 ((wrap64 (x257001_1 * (wrap64 (a0_3 + a0_2)))) + (wrap64 (a0_3 * x257002_1)))))).setCell ⟨gb265, 2, none⟩ (.int .i64 (wrap64 (x257002_1 * (wrap64 ((wrap64 ((wrap64 (a0_3 + a0_2)) - a0_1)) - a0_2)))))) = w40 at n0_ n1_ n2_ n3_ n4_ ⊢
      have HO_6 := n0_
      have BK255 := n1_
      have BK256 := n2_
      have BK265 := n3_
      have HB := n4_
      clear n0_ n1_ n2_ n3_ n4_
      have n0_ := Aside0.mk (Kd.R_drew HO_6.out)
      have n1_ := Aside0.mk (blk_drew BK255.out)
      have n2_ := Aside0.mk (blk_drew BK256.out)
      have n3_ := Aside0.mk (blk_drew BK265.out)
      have n4_ := Aside0.mk (below_drew1 HB.out)
      clear HO_6
      clear BK255
      clear BK256
      clear BK265
      clear HB
      have HO_6 := n0_
      have BK255 := n1_
      have BK256 := n2_
      have BK265 := n3_
      have HB := n4_
      clear n0_ n1_ n2_ n3_ n4_
      refine start_ (n := 12) (S := fun w' => w'.cell? ⟨gb256, 0, none⟩ = some (.int .i64 x257000_1) ∧ w'.cell? ⟨gb256, 1, none⟩ = some (.int .i64 x257001_1) ∧ w'.cell? ⟨gb256, 2, none⟩ = some (.int .i64 x257002_1) ∧ w'.cell? ⟨gb256, 3, none⟩ = some (.int .i64 x257003_1) ∧ w'.cell? ⟨gb256, 4, none⟩ = some (.int .i64 x257004_1)) (ds := []) #[false, false, false, false, false, false, false, false, false, false, false, false] (by kernel_rfl) rfl rfl ⟨(blk_cell BK256.out 0).trans rfl, (blk_cell BK256.out 1).trans rfl, (blk_cell BK256.out 2).trans rfl, (blk_cell BK256.out 3).trans rfl, (blk_cell BK256.out 4).trans rfl⟩ (fun hHeld => ?_); refine with_tabW spec_doRun.tab15 spec_doRun.bits15 (fun HT_ HW_ => ?_)
      generalize w40.drew = w41 at HO_6 BK255 BK256 BK265 HB hHeld ⊢
      refine pu_ 0 73 12 1 ?_
      refine pu_ 2 75 12 5 ?_
      refine pu_ 4 77 12 21 ?_
      refine pu_ 6 79 12 85 ?_
      refine tk_ 1 74 12 87 hHeld ?_
      refine pu_ 3 76 12 95 ?_
      refine tk_ 7 80 12 223 hHeld ?_
      refine one_ (i := 5) (N := some 78) (pm_ 12 255) rfl rfl (one_of HT_.out (by kernel_rfl)) (by decide) (fun K hK => ?_)
      refine goes_ Tryz.func38 (by kernel_rfl) rfl #[.int .i64 0, .int .i64 a0_3] (by rfl) rfl rfl (by (try simp only [List.map_toArray, List.map_cons, List.map_nil]); first | done | rfl | (simp only [List.length_drop, List.length_take]; rfl)) ?_
      with_reducible refine (spec_l1Most.calls 0 a0_3 t266 _ A29.out).mono ?_
      rintro e w' ⟨rfl, ⟨nd, rfl⟩⟩
      refine ⟨_, rfl, ?_⟩
      refine hK.out _ _ ⟨(blk_cell BK256.out 0).trans rfl, (blk_cell BK256.out 1).trans rfl, (blk_cell BK256.out 2).trans rfl, (blk_cell BK256.out 3).trans rfl, (blk_cell BK256.out 4).trans rfl⟩ (fun hHeld => ?_)
      clear hK K
      refine norm_ (a' := ?_) ?_ ?_
      rotate_left
      ·
       show Act.put _ (some 78) _ = _
       simp only [Act.put, List.setIfInBounds_toArray, List.set_cons_zero, List.set_cons_succ, i64_w, i32_w]
       rfl
      refine pu_ 8 81 12 511 ?_
      refine pu_ 9 82 12 1023 ?_
      refine pu_ 10 83 12 2047 ?_
      refine one_ (i := 11) (N := none) (pm_ 12 4095) rfl rfl (one_of HT_.out (by kernel_rfl)) (by decide) (fun K hK => ?_)
      have hs42 : w41.cell? ⟨gb265, 3, none⟩ = some (.int .i64 0) := (blk_cell BK265.out 3).trans rfl
      have hfs42 := blk_frozen BK265.out 3
      have hns42_0 := NB255_265.out
      have hns42_1 := NB256_265.out
      have hms42_0 := NB265_255.out
      have hms42_1 := NB265_256.out
      refine skip_ (w1 := ?_) (by rfl) rfl ?_ ?_
      rotate_left
      ·
       go_simp
       rfl
      refine hK.out _ _ ⟨((cell_far (p := ⟨gb265, _, none⟩) NB256_265.out _).trans (hHeld.1)), ((cell_far (p := ⟨gb265, _, none⟩) NB256_265.out _).trans (hHeld.2.1)), ((cell_far (p := ⟨gb265, _, none⟩) NB256_265.out _).trans (hHeld.2.2.1)), ((cell_far (p := ⟨gb265, _, none⟩) NB256_265.out _).trans (hHeld.2.2.2.1)), ((cell_far (p := ⟨gb265, _, none⟩) NB256_265.out _).trans (hHeld.2.2.2.2))⟩ (fun hHeld => ?_)
      clear hK K
      refine done_ (done_of HT_.out (by kernel_rfl)) ?_
      have hcz43_0 : w41.cell? ⟨gb265, 0, none⟩ = some (.int .i64 (wrap64 ((wrap64 (x257000_1 * (wrap64 (a0_3 + a0_2)))) + x257002_1))) := (blk_cell BK265.out 0).trans rfl
      have hcz43_1 : w41.cell? ⟨gb265, 1, none⟩ = some (.int .i64 (wrap64 ((wrap64 (x257001_1 * (wrap64 (a0_3 + a0_2)))) + (wrap64 (a0_3 * x257002_1))))) := (blk_cell BK265.out 1).trans rfl
      have hcz43_2 : w41.cell? ⟨gb265, 2, none⟩ = some (.int .i64 (wrap64 (x257002_1 * (wrap64 ((wrap64 ((wrap64 (a0_3 + a0_2)) - a0_1)) - a0_2))))) := (blk_cell BK265.out 2).trans rfl
      have hcz43_3 : w41.cell? ⟨gb265, 3, none⟩ = some (.int .i64 0) := (blk_cell BK265.out 3).trans rfl
      have hcz43_4 : w41.cell? ⟨gb265, 4, none⟩ = some (.int .i64 (wrap64 (x257004_1 * (wrap64 (a0_3 + a0_2))))) := (blk_cell BK265.out 4).trans rfl
      have hfz43_0 := blk_frozen BK265.out 0
      have hfz43_1 := blk_frozen BK265.out 1
      have hfz43_2 := blk_frozen BK265.out 2
      have hfz43_3 := blk_frozen BK265.out 3
      have hfz43_4 := blk_frozen BK265.out 4
      have hcz44_0 : w41.cell? ⟨gb256, 0, none⟩ = some (.int .i64 x257000_1) := (blk_cell BK256.out 0).trans rfl
      have hcz44_1 : w41.cell? ⟨gb256, 1, none⟩ = some (.int .i64 x257001_1) := (blk_cell BK256.out 1).trans rfl
      have hcz44_2 : w41.cell? ⟨gb256, 2, none⟩ = some (.int .i64 x257002_1) := (blk_cell BK256.out 2).trans rfl
      have hcz44_3 : w41.cell? ⟨gb256, 3, none⟩ = some (.int .i64 x257003_1) := (blk_cell BK256.out 3).trans rfl
      have hcz44_4 : w41.cell? ⟨gb256, 4, none⟩ = some (.int .i64 x257004_1) := (blk_cell BK256.out 4).trans rfl
      have hfz44_0 := blk_frozen BK256.out 0
      have hfz44_1 := blk_frozen BK256.out 1
      have hfz44_2 := blk_frozen BK256.out 2
      have hfz44_3 := blk_frozen BK256.out 3
      have hfz44_4 := blk_frozen BK256.out 4
      try go_wp2_with (first | ((with_reducible refine gate_builtin (b := .append) (xs := #[.tmp 85, .tmp 87]) rfl ?_); at_builtin; refine Kd.R_append k66 (w0 := w) w.heap.size rfl (.tmp 85) (.tmp 87) 67 66 (.agg #[(.int .i64 0), (.int .i64 0), (.int .i64 0), (.int .i64 0), (.int .i64 0)]) 40 rfl Tryz.underlying67 info66 rfl (by decide) (by omega) u6 x6_1 (⟨wrap64 ((wrap64 (x257000_1 * (wrap64 (a0_3 + a0_2)))) + x257002_1), wrap64 ((wrap64 (x257001_1 * (wrap64 (a0_3 + a0_2)))) + (wrap64 (a0_3 * x257002_1))), wrap64 (x257002_1 * (wrap64 ((wrap64 ((wrap64 (a0_3 + a0_2)) - a0_1)) - a0_2))), wrap64 ((wrap64 (x257003_1 * (wrap64 (a0_3 + a0_2)))) + (wrap64 (t266 * x257002_1))), wrap64 (x257004_1 * (wrap64 (a0_3 + a0_2)))⟩ : S66) [.int .i64 (wrap64 ((wrap64 (x257000_1 * (wrap64 (a0_3 + a0_2)))) + x257002_1)), .int .i64 (wrap64 ((wrap64 (x257001_1 * (wrap64 (a0_3 + a0_2)))) + (wrap64 (a0_3 * x257002_1)))), .int .i64 (wrap64 (x257002_1 * (wrap64 ((wrap64 ((wrap64 (a0_3 + a0_2)) - a0_1)) - a0_2)))), .int .i64 (wrap64 ((wrap64 (x257003_1 * (wrap64 (a0_3 + a0_2)))) + (wrap64 (t266 * x257002_1)))), .int .i64 (wrap64 (x257004_1 * (wrap64 (a0_3 + a0_2))))] (fun k_ => k_ ≠ gb256 ∧ k_ ≠ gb265) (fun _ => False) rfl (by first | (go_simp; done) | (go_simp; rfl)) ?aP (fun _ hk => hk.elim) ?aF ?aO ?aB ?aS ?aL ?_; (case aP => exact k66_mkM _ _ _ (⟨wrap64 ((wrap64 (x257000_1 * (wrap64 (a0_3 + a0_2)))) + x257002_1), wrap64 ((wrap64 (x257001_1 * (wrap64 (a0_3 + a0_2)))) + (wrap64 (a0_3 * x257002_1))), wrap64 (x257002_1 * (wrap64 ((wrap64 ((wrap64 (a0_3 + a0_2)) - a0_1)) - a0_2))), wrap64 ((wrap64 (x257003_1 * (wrap64 (a0_3 + a0_2)))) + (wrap64 (t266 * x257002_1))), wrap64 (x257004_1 * (wrap64 (a0_3 + a0_2)))⟩ : S66)); (case aB => exact bw_); (case aF => exact (fun k_ hk => ⟨Kd.freshB (g := gb256) (o := .cells #[.int .i64 (wrap64 ((wrap64 (x257000_1 * (wrap64 (a0_3 + a0_2)))) + x257002_1)), .int .i64 (wrap64 ((wrap64 (x257001_1 * (wrap64 (a0_3 + a0_2)))) + (wrap64 (a0_3 * x257002_1)))), .int .i64 (wrap64 (x257002_1 * (wrap64 ((wrap64 ((wrap64 (a0_3 + a0_2)) - a0_1)) - a0_2)))), .int .i64 (wrap64 ((wrap64 (x257003_1 * (wrap64 (a0_3 + a0_2)))) + (wrap64 (t266 * x257002_1)))), .int .i64 (wrap64 (x257004_1 * (wrap64 (a0_3 + a0_2))))] 66 (0, 0)) (by (with_reducible repeat (first | refine blk_drewN ?_ _ | refine blk_drew ?_ | refine blk_alloc ?_ _)); refine blk_put (cs := #[.int .i64 (wrap64 ((wrap64 (x257000_1 * (wrap64 (a0_3 + a0_2)))) + x257002_1)), .int .i64 (wrap64 ((wrap64 (x257001_1 * (wrap64 (a0_3 + a0_2)))) + (wrap64 (a0_3 * x257002_1)))), .int .i64 (wrap64 (x257002_1 * (wrap64 ((wrap64 ((wrap64 (a0_3 + a0_2)) - a0_1)) - a0_2)))), .int .i64 (wrap64 ((wrap64 (x257003_1 * (wrap64 (a0_3 + a0_2)))) + (wrap64 (t266 * x257002_1)))), .int .i64 x257004_1]) ?_ 4 _ rfl; (with_reducible repeat (first | refine blk_drewN ?_ _ | refine blk_drew ?_ | refine blk_alloc ?_ _)); refine blk_put (cs := #[.int .i64 (wrap64 ((wrap64 (x257000_1 * (wrap64 (a0_3 + a0_2)))) + x257002_1)), .int .i64 (wrap64 ((wrap64 (x257001_1 * (wrap64 (a0_3 + a0_2)))) + (wrap64 (a0_3 * x257002_1)))), .int .i64 (wrap64 (x257002_1 * (wrap64 ((wrap64 ((wrap64 (a0_3 + a0_2)) - a0_1)) - a0_2)))), .int .i64 x257003_1, .int .i64 x257004_1]) ?_ 3 _ rfl; (with_reducible repeat (first | refine blk_drewN ?_ _ | refine blk_drew ?_ | refine blk_alloc ?_ _)); refine blk_put (cs := #[.int .i64 (wrap64 ((wrap64 (x257000_1 * (wrap64 (a0_3 + a0_2)))) + x257002_1)), .int .i64 (wrap64 ((wrap64 (x257001_1 * (wrap64 (a0_3 + a0_2)))) + (wrap64 (a0_3 * x257002_1)))), .int .i64 x257002_1, .int .i64 x257003_1, .int .i64 x257004_1]) ?_ 2 _ rfl; (with_reducible repeat (first | refine blk_drewN ?_ _ | refine blk_drew ?_ | refine blk_alloc ?_ _)); refine blk_put (cs := #[.int .i64 (wrap64 ((wrap64 (x257000_1 * (wrap64 (a0_3 + a0_2)))) + x257002_1)), .int .i64 x257001_1, .int .i64 x257002_1, .int .i64 x257003_1, .int .i64 x257004_1]) ?_ 1 _ rfl; (with_reducible repeat (first | refine blk_drewN ?_ _ | refine blk_drew ?_ | refine blk_alloc ?_ _)); refine blk_put (cs := #[.int .i64 x257000_1, .int .i64 x257001_1, .int .i64 x257002_1, .int .i64 x257003_1, .int .i64 x257004_1]) ?_ 0 _ rfl; (with_reducible repeat (first | refine blk_drewN ?_ _ | refine blk_drew ?_ | refine blk_alloc ?_ _)); refine blk_far ?_ NB256_265.out _; (with_reducible repeat (first | refine blk_drewN ?_ _ | refine blk_drew ?_ | refine blk_alloc ?_ _)); exact BK256.out) k_ hk, Kd.freshB (g := gb265) (o := .cells #[.int .i64 (wrap64 ((wrap64 (x257000_1 * (wrap64 (a0_3 + a0_2)))) + x257002_1)), .int .i64 (wrap64 ((wrap64 (x257001_1 * (wrap64 (a0_3 + a0_2)))) + (wrap64 (a0_3 * x257002_1)))), .int .i64 (wrap64 (x257002_1 * (wrap64 ((wrap64 ((wrap64 (a0_3 + a0_2)) - a0_1)) - a0_2)))), .int .i64 (wrap64 ((wrap64 (x257003_1 * (wrap64 (a0_3 + a0_2)))) + (wrap64 (t266 * x257002_1)))), .int .i64 (wrap64 (x257004_1 * (wrap64 (a0_3 + a0_2))))] 66 (0, 0)) (by (with_reducible repeat (first | refine blk_drewN ?_ _ | refine blk_drew ?_ | refine blk_alloc ?_ _)); refine blk_far ?_ NB265_256.out _; (with_reducible repeat (first | refine blk_drewN ?_ _ | refine blk_drew ?_ | refine blk_alloc ?_ _)); refine blk_far ?_ NB265_256.out _; (with_reducible repeat (first | refine blk_drewN ?_ _ | refine blk_drew ?_ | refine blk_alloc ?_ _)); refine blk_far ?_ NB265_256.out _; (with_reducible repeat (first | refine blk_drewN ?_ _ | refine blk_drew ?_ | refine blk_alloc ?_ _)); refine blk_far ?_ NB265_256.out _; (with_reducible repeat (first | refine blk_drewN ?_ _ | refine blk_drew ?_ | refine blk_alloc ?_ _)); refine blk_far ?_ NB265_256.out _; (with_reducible repeat (first | refine blk_drewN ?_ _ | refine blk_drew ?_ | refine blk_alloc ?_ _)); refine blk_put (cs := #[.int .i64 (wrap64 ((wrap64 (x257000_1 * (wrap64 (a0_3 + a0_2)))) + x257002_1)), .int .i64 (wrap64 ((wrap64 (x257001_1 * (wrap64 (a0_3 + a0_2)))) + (wrap64 (a0_3 * x257002_1)))), .int .i64 (wrap64 (x257002_1 * (wrap64 ((wrap64 ((wrap64 (a0_3 + a0_2)) - a0_1)) - a0_2)))), .int .i64 0, .int .i64 (wrap64 (x257004_1 * (wrap64 (a0_3 + a0_2))))]) ?_ 3 _ rfl; (with_reducible repeat (first | refine blk_drewN ?_ _ | refine blk_drew ?_ | refine blk_alloc ?_ _)); exact BK265.out) k_ hk⟩)); (case aO => exact (by (with_reducible repeat (first | apply Kd.R_alloc | apply Kd.R_drewN | apply Kd.R_drew)); exact Kd.R_mono (Kd.R_far (p := ⟨gb256, 4, none⟩) (Kd.R_far (p := ⟨gb256, 3, none⟩) (Kd.R_far (p := ⟨gb256, 2, none⟩) (Kd.R_far (p := ⟨gb256, 1, none⟩) (Kd.R_far (p := ⟨gb256, 0, none⟩) (Kd.R_far (p := ⟨gb265, 3, none⟩) (Kd.R_mono (Kd.R_mono HO_6.out (fun k_ hk => (⟨hk, hk.2⟩ : _ ∧ k_ ≠ gb265))) (fun k_ hk => (⟨hk, hk.1.1⟩ : _ ∧ k_ ≠ gb256))) (fun _ hk => hk.1.2) (.int .i64 (wrap64 ((wrap64 (x257003_1 * (wrap64 (a0_3 + a0_2)))) + (wrap64 (t266 * x257002_1)))))) (fun _ hk => hk.2) (.int .i64 (wrap64 ((wrap64 (x257000_1 * (wrap64 (a0_3 + a0_2)))) + x257002_1)))) (fun _ hk => hk.2) (.int .i64 (wrap64 ((wrap64 (x257001_1 * (wrap64 (a0_3 + a0_2)))) + (wrap64 (a0_3 * x257002_1)))))) (fun _ hk => hk.2) (.int .i64 (wrap64 (x257002_1 * (wrap64 ((wrap64 ((wrap64 (a0_3 + a0_2)) - a0_1)) - a0_2)))))) (fun _ hk => hk.2) (.int .i64 (wrap64 ((wrap64 (x257003_1 * (wrap64 (a0_3 + a0_2)))) + (wrap64 (t266 * x257002_1)))))) (fun _ hk => hk.2) (.int .i64 (wrap64 (x257004_1 * (wrap64 (a0_3 + a0_2)))))) (fun _ hk => ⟨hk.1.1.1, hk.1.1.2⟩))); (case aS => exact (below_size bw_)); (case aL => have := LMc30.out; omega); intro v268 w45 ho hb hg hat; rw [← Ny267.out] at ho; have n0_ := Aside0.mk (blk_grown (g := gb255) (o := .cells #[.int .i64 a0_0, .int .i64 a0_1, .int .i64 a0_2, .int .i64 a0_3] 25 (0, 0)) bf_ hg (Kd.R_ne HO_6.out BK255.out (by decide))); have n1_ := Aside0.mk (blk_grown (g := gb256) (o := .cells #[.int .i64 (wrap64 ((wrap64 (x257000_1 * (wrap64 (a0_3 + a0_2)))) + x257002_1)), .int .i64 (wrap64 ((wrap64 (x257001_1 * (wrap64 (a0_3 + a0_2)))) + (wrap64 (a0_3 * x257002_1)))), .int .i64 (wrap64 (x257002_1 * (wrap64 ((wrap64 ((wrap64 (a0_3 + a0_2)) - a0_1)) - a0_2)))), .int .i64 (wrap64 ((wrap64 (x257003_1 * (wrap64 (a0_3 + a0_2)))) + (wrap64 (t266 * x257002_1)))), .int .i64 (wrap64 (x257004_1 * (wrap64 (a0_3 + a0_2))))] 66 (0, 0)) (by (with_reducible repeat (first | refine blk_drewN ?_ _ | refine blk_drew ?_ | refine blk_alloc ?_ _)); refine blk_put (cs := #[.int .i64 (wrap64 ((wrap64 (x257000_1 * (wrap64 (a0_3 + a0_2)))) + x257002_1)), .int .i64 (wrap64 ((wrap64 (x257001_1 * (wrap64 (a0_3 + a0_2)))) + (wrap64 (a0_3 * x257002_1)))), .int .i64 (wrap64 (x257002_1 * (wrap64 ((wrap64 ((wrap64 (a0_3 + a0_2)) - a0_1)) - a0_2)))), .int .i64 (wrap64 ((wrap64 (x257003_1 * (wrap64 (a0_3 + a0_2)))) + (wrap64 (t266 * x257002_1)))), .int .i64 x257004_1]) ?_ 4 _ rfl; (with_reducible repeat (first | refine blk_drewN ?_ _ | refine blk_drew ?_ | refine blk_alloc ?_ _)); refine blk_put (cs := #[.int .i64 (wrap64 ((wrap64 (x257000_1 * (wrap64 (a0_3 + a0_2)))) + x257002_1)), .int .i64 (wrap64 ((wrap64 (x257001_1 * (wrap64 (a0_3 + a0_2)))) + (wrap64 (a0_3 * x257002_1)))), .int .i64 (wrap64 (x257002_1 * (wrap64 ((wrap64 ((wrap64 (a0_3 + a0_2)) - a0_1)) - a0_2)))), .int .i64 x257003_1, .int .i64 x257004_1]) ?_ 3 _ rfl; (with_reducible repeat (first | refine blk_drewN ?_ _ | refine blk_drew ?_ | refine blk_alloc ?_ _)); refine blk_put (cs := #[.int .i64 (wrap64 ((wrap64 (x257000_1 * (wrap64 (a0_3 + a0_2)))) + x257002_1)), .int .i64 (wrap64 ((wrap64 (x257001_1 * (wrap64 (a0_3 + a0_2)))) + (wrap64 (a0_3 * x257002_1)))), .int .i64 x257002_1, .int .i64 x257003_1, .int .i64 x257004_1]) ?_ 2 _ rfl; (with_reducible repeat (first | refine blk_drewN ?_ _ | refine blk_drew ?_ | refine blk_alloc ?_ _)); refine blk_put (cs := #[.int .i64 (wrap64 ((wrap64 (x257000_1 * (wrap64 (a0_3 + a0_2)))) + x257002_1)), .int .i64 x257001_1, .int .i64 x257002_1, .int .i64 x257003_1, .int .i64 x257004_1]) ?_ 1 _ rfl; (with_reducible repeat (first | refine blk_drewN ?_ _ | refine blk_drew ?_ | refine blk_alloc ?_ _)); refine blk_put (cs := #[.int .i64 x257000_1, .int .i64 x257001_1, .int .i64 x257002_1, .int .i64 x257003_1, .int .i64 x257004_1]) ?_ 0 _ rfl; (with_reducible repeat (first | refine blk_drewN ?_ _ | refine blk_drew ?_ | refine blk_alloc ?_ _)); refine blk_far ?_ NB256_265.out _; (with_reducible repeat (first | refine blk_drewN ?_ _ | refine blk_drew ?_ | refine blk_alloc ?_ _)); exact BK256.out) hg (Kd.R_away HO_6.out (fun _ hk => hk.1))); have n2_ := Aside0.mk (blk_grown (g := gb265) (o := .cells #[.int .i64 (wrap64 ((wrap64 (x257000_1 * (wrap64 (a0_3 + a0_2)))) + x257002_1)), .int .i64 (wrap64 ((wrap64 (x257001_1 * (wrap64 (a0_3 + a0_2)))) + (wrap64 (a0_3 * x257002_1)))), .int .i64 (wrap64 (x257002_1 * (wrap64 ((wrap64 ((wrap64 (a0_3 + a0_2)) - a0_1)) - a0_2)))), .int .i64 (wrap64 ((wrap64 (x257003_1 * (wrap64 (a0_3 + a0_2)))) + (wrap64 (t266 * x257002_1)))), .int .i64 (wrap64 (x257004_1 * (wrap64 (a0_3 + a0_2))))] 66 (0, 0)) (by (with_reducible repeat (first | refine blk_drewN ?_ _ | refine blk_drew ?_ | refine blk_alloc ?_ _)); refine blk_far ?_ NB265_256.out _; (with_reducible repeat (first | refine blk_drewN ?_ _ | refine blk_drew ?_ | refine blk_alloc ?_ _)); refine blk_far ?_ NB265_256.out _; (with_reducible repeat (first | refine blk_drewN ?_ _ | refine blk_drew ?_ | refine blk_alloc ?_ _)); refine blk_far ?_ NB265_256.out _; (with_reducible repeat (first | refine blk_drewN ?_ _ | refine blk_drew ?_ | refine blk_alloc ?_ _)); refine blk_far ?_ NB265_256.out _; (with_reducible repeat (first | refine blk_drewN ?_ _ | refine blk_drew ?_ | refine blk_alloc ?_ _)); refine blk_far ?_ NB265_256.out _; (with_reducible repeat (first | refine blk_drewN ?_ _ | refine blk_drew ?_ | refine blk_alloc ?_ _)); refine blk_put (cs := #[.int .i64 (wrap64 ((wrap64 (x257000_1 * (wrap64 (a0_3 + a0_2)))) + x257002_1)), .int .i64 (wrap64 ((wrap64 (x257001_1 * (wrap64 (a0_3 + a0_2)))) + (wrap64 (a0_3 * x257002_1)))), .int .i64 (wrap64 (x257002_1 * (wrap64 ((wrap64 ((wrap64 (a0_3 + a0_2)) - a0_1)) - a0_2)))), .int .i64 0, .int .i64 (wrap64 (x257004_1 * (wrap64 (a0_3 + a0_2))))]) ?_ 3 _ rfl; (with_reducible repeat (first | refine blk_drewN ?_ _ | refine blk_drew ?_ | refine blk_alloc ?_ _)); exact BK265.out) hg (Kd.R_away HO_6.out (fun _ hk => hk.2))); have n3_ := Aside0.mk (hb); have n4_ := Aside0.mk (ho); clear BK255; clear BK256; clear BK265; clear HB; clear HO_6; have BK255 := n0_; have BK256 := n1_; have BK265 := n2_; have HB := n3_; have HO269 := n4_; clear n0_ n1_ n2_ n3_ n4_; clear ho hb hg hat))
      go_roundg k1
      case measure => have := HK1.out; omega
      case rel => exact ⟨(y267), (wrap64 (x7_1 + 1)), (wrap64 ((wrap64 (x257000_1 * (wrap64 (a0_3 + a0_2)))) + x257002_1)), (wrap64 ((wrap64 (x257001_1 * (wrap64 (a0_3 + a0_2)))) + (wrap64 (a0_3 * x257002_1)))), (wrap64 (x257002_1 * (wrap64 ((wrap64 ((wrap64 (a0_3 + a0_2)) - a0_1)) - a0_2)))), (wrap64 ((wrap64 (x257003_1 * (wrap64 (a0_3 + a0_2)))) + (wrap64 (t266 * x257002_1)))), (wrap64 (x257004_1 * (wrap64 (a0_3 + a0_2)))), (rs_), H', ⟨by have := HK1.out; omega⟩, ⟨by (with_reducible repeat (first | apply Kd.R_alloc | apply Kd.R_drewN | apply Kd.R_drew)); exact Kd.R_mono HO269.out (fun _ hk => hk.1)⟩, ⟨bk_⟩, ⟨bk_⟩, ⟨bw_⟩⟩
     ·
      rw [if_neg c30] at H
      exact absurd H (by simp)
   ·
    rw [if_neg c10] at H
    have c10b0 : decide (x7_1 ≤ a1) = false := decide_eq_false c10
    clear c10
    obtain rfl := Option.some.inj H
    go_wp2
    go_ret
    exact ⟨_, rt_, by (with_reducible repeat (first | apply Kd.R_alloc | apply Kd.R_drewN | apply Kd.R_drew)); exact Kd.R_mono HO_6.out (fun _ hk => trivial), bw_⟩


/-! ### spec_doBefore: function 35 -/
/-- how many of the turns from one on come up to a time -/
def spec_doBefore.n (a1 a2 : Int) (t : List S66) : Nat → Int → Int → Int
  | 0, _, n => n
  | d + 1, x, n => spec_doBefore.n a1 a2 t d (x + 1) (if (wrap64 ((rd_T66 t x).f0 * a2)) ≤ (wrap64 (a1 * (rd_T66 t x).f4)) then wrap64 (n + 1) else n)
def spec_doBefore.f (k : Nat) (a0_0 : Int) (a0_1 : Int) (a0_2 : Int) (a0_3 : Int) (a1 : Int) (a2 : Int) : Option (Int) := (spec_doRun.f k a0_0 a0_1 a0_2 a0_3 7).bind fun t => (if 2 ≤ t.length then (some (spec_doBefore.n a1 a2 (t.drop 1) (t.drop 1).length 0 0)) else (none))

set_option maxHeartbeats 8000000 in
set_option maxRecDepth 100000 in
theorem spec_doBefore.calls (k : Nat) (a0_0 : Int) (a0_1 : Int) (a0_2 : Int) (a0_3 : Int) (a1 : Int) (a2 : Int) (r : Int) (w : World) (h : spec_doBefore.f k a0_0 a0_1 a0_2 a0_3 a1 a2 = some r) :
  Calls Tryz.prog 35 #[.agg #[.int .i64 a0_0, .int .i64 a0_1, .int .i64 a0_2, .int .i64 a0_3], .int .i64 a1, .int .i64 a2] w fun e w' => e = .returned (.int .i64 r) ∧ Below w.heap.size w w' := by
 have hu26 := Tryz.underlying25
 have hu41 := Tryz.underlying66
 have H := h
 unfold spec_doBefore.f at H
 clear h
 replace H := Option.bind_eq_some_iff.mp H
 obtain ⟨t, A3, H⟩ := H
 have HA := Aside0.mk A3
 clear A3
 by_cases hl : 2 ≤ t.length
 case neg => rw [if_neg hl] at H; cases H
 rw [if_pos hl] at H
 obtain ⟨t0, T, rfl⟩ : ∃ t0 T, t = t0 :: T := by
  cases t with
    | nil => simp at hl
    | cons t0 T => exact ⟨t0, T, rfl⟩
 have HR := Aside0.mk (show spec_doBefore.n a1 a2 T T.length 0 0 = r from Option.some.inj H)
 clear H
 simp only [List.length_cons] at hl
 go_enter Tryz.func35, Tryz.ntmps35
 go_upto_block 0 with (go_at_call 36; refine (spec_doRun.calls k a0_0 a0_1 a0_2 a0_3 7 (t0 :: T) _ HA.out).mono ?_; rintro e w1 ⟨v0, rfl, hR, hb⟩; obtain ⟨A0, c0, rfl, hc0, hC⟩ := Kd.R_reads hR; obtain ⟨ad, rfl, hcells⟩ := hC.2.2 (Nat.succ_pos _); clear hcells; replace hc0 : T.length + 1 ≤ c0 := hc0; have c0lt : 1 < c0 := Nat.lt_of_lt_of_le (by omega) hc0; have HB1 := Aside0.mk hb; have HC1 := Aside0.mk hC; clear hR hb hC)
 have HB0 := Aside0.mk (below_step (below_alloc (Below.refl _ _) _) HB1.out)
 have HC := Aside0.mk (show Kd.C k66 w1 (some ⟨ad.block, ad.off + 5, none⟩) T.length T from by
  have z := Kd.C_drop (m := 1) (c := c0) (show Kd.C k66 w1 (some ad) (t0 :: T).length (t0 :: T) from HC1.out) (by simp) (by simpa using hc0)
  rw [if_neg (by omega)] at z
  exact z)
 have HT := Aside0.mk (Kd.C_max HC.out)
 clear HC1 HA HB1 hc0 c0lt
 go_wp2
 go_loopg [7, 14] T.length (fun gg v7 v14 wr => ∃ (x n : Int), v14 = .int .i64 x ∧ v7 = .int .i64 n ∧ Aside0 (0 ≤ x) ∧ Aside0 (x + gg = T.length) ∧ Aside0 (spec_doBefore.n a1 a2 T gg x n = r) ∧ Aside0 (Below w1.heap.size w1 wr))
 case atStart => exact ⟨0, 0, rfl, rfl, ⟨Int.le_refl 0⟩, ⟨by omega⟩, HR, ⟨Below.refl _ _⟩⟩
 case round =>
  obtain ⟨x, n, rfl, rfl, HX, HG, HN, HB⟩ := hrel
  cases gk with
    | zero =>
   have c5b0 : decide (x < (T.length : Int)) = false := decide_eq_false (by have := HG.out; omega)
   go_wp2
   go_ret
   exact ⟨by rw [← HN.out]; rfl, below_step HB0.out HB.out⟩
    | succ d =>
   have c5 : x < (T.length : Int) := by have := HG.out; omega
   have c5b0 : decide (x < (T.length : Int)) = true := decide_eq_true c5
   have c6b0 : decide (0 ≤ x) = true := decide_eq_true HX.out
   obtain ⟨ad1, e1, hx0, hx1, hx2, hx3, hx4⟩ := at_T66 HC.out x HX.out c5
   cases e1
   have ea : (⟨ad.block, ad.off + 5, none⟩ : Addr).add (x.toNat * 5) = ⟨ad.block, ad.off + 5 + x.toNat * 5, none⟩ := by
    unfold Addr.add
    split
    ·
     rename_i h
     rw [h]
    ·
     rfl
   rw [ea] at hx0 hx1 hx2 hx3 hx4
   clear ea
   have p1 : (0 ≤ x) = True := eq_true HX.out
   have q1 : (x < (T.length : Int)) = True := eq_true c5
   clear c5
   replace hx0 : wr.cell? ⟨ad.block, ad.off + 5 + x.toNat * 5, none⟩ = some (.int .i64 (rd_T66 T x).f0) := (HB.out.cell (World.block_lt_of_cell? w1 _ hx0)).trans hx0
   replace hx1 : wr.cell? ⟨ad.block, ad.off + 5 + x.toNat * 5 + 1, none⟩ = some (.int .i64 (rd_T66 T x).f1) := (HB.out.cell (World.block_lt_of_cell? w1 _ hx1)).trans hx1
   replace hx2 : wr.cell? ⟨ad.block, ad.off + 5 + x.toNat * 5 + 2, none⟩ = some (.int .i64 (rd_T66 T x).f2) := (HB.out.cell (World.block_lt_of_cell? w1 _ hx2)).trans hx2
   replace hx3 : wr.cell? ⟨ad.block, ad.off + 5 + x.toNat * 5 + 3, none⟩ = some (.int .i64 (rd_T66 T x).f3) := (HB.out.cell (World.block_lt_of_cell? w1 _ hx3)).trans hx3
   replace hx4 : wr.cell? ⟨ad.block, ad.off + 5 + x.toNat * 5 + 4, none⟩ = some (.int .i64 (rd_T66 T x).f4) := (HB.out.cell (World.block_lt_of_cell? w1 _ hx4)).trans hx4
   have E1 := Aside0.mk (show wrap64 (x + 1) = x + 1 from by have h1 := HG.out; have h2 := HX.out; have h3 := HT.out; unfold wrap64; omega)
   have hn : spec_doBefore.n a1 a2 T (d + 1) x n = spec_doBefore.n a1 a2 T d (x + 1) (if (wrap64 ((rd_T66 T x).f0 * a2)) ≤ (wrap64 (a1 * (rd_T66 T x).f4)) then wrap64 (n + 1) else n) := rfl
   by_cases z : (wrap64 ((rd_T66 T x).f0 * a2)) ≤ (wrap64 (a1 * (rd_T66 T x).f4))
   ·
    rw [if_pos z] at hn
    have H' := Aside0.mk (hn.symm.trans HN.out)
    have zb : decide ((wrap64 ((rd_T66 T x).f0 * a2)) ≤ (wrap64 (a1 * (rd_T66 T x).f4))) = true := decide_eq_true z
    clear hn z
    go_wp2
    go_roundg d
    case measure => omega
    case rel => exact ⟨x + 1, wrap64 (n + 1), (by first | rfl | rw [E1.out] | (simp [E1.out]; done)), (by first | rfl | (simp; done)), ⟨by have := HX.out; omega⟩, ⟨by have := HG.out; omega⟩, H', ⟨below_step (by repeat (first | exact HB.out | apply below_alloc | apply pw_below_drewN | apply below_drew1 | refine below_set ?_ (Nat.le_refl _))) (Below.refl _ _)⟩⟩
   ·
    rw [if_neg z] at hn
    have H' := Aside0.mk (hn.symm.trans HN.out)
    have zb : decide ((wrap64 ((rd_T66 T x).f0 * a2)) ≤ (wrap64 (a1 * (rd_T66 T x).f4))) = false := decide_eq_false z
    clear hn z
    go_wp2
    go_roundg d
    case measure => omega
    case rel => exact ⟨x + 1, n, (by first | rfl | rw [E1.out] | (simp [E1.out]; done)), rfl, ⟨by have := HX.out; omega⟩, ⟨by have := HG.out; omega⟩, H', ⟨below_step (by repeat (first | exact HB.out | apply below_alloc | apply pw_below_drewN | apply below_drew1 | refine below_set ?_ (Nat.le_refl _))) (Below.refl _ _)⟩⟩

end Go.Proofs.YtajlcomankjcjadGreatDoor.PFnDogsChase
