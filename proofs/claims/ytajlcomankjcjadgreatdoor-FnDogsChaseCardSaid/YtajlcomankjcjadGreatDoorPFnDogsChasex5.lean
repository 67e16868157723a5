-- Laid by a program of this session's (wip/gen/printp.sh): the functions that the law reaches, each with its walk.
import Derived.Test.YtajlcomankjcjadGreatDoorPFnDogsChasex0
import Derived.Test.YtajlcomankjcjadGreatDoorPFnDogsChasex3
import Derived.Test.YtajlcomankjcjadGreatDoorPFnDogsChasex4
namespace Go.Proofs.YtajlcomankjcjadGreatDoor.PFnDogsChase
open Go.RowKit Go.Proofs.YtajlcomankjcjadGreatDoorW.PrintWords Go.Proofs.YtajlcomankjcjadGreatDoorW.PrintLast Go.Proofs.YtajlcomankjcjadGreatDoorW.PrintMore
attribute [local go_sem] max2_int min2_int max_two min_two max_three min_three max_four min_four   -- for this text's walks alone
set_option linter.unusedVariables false
set_option linter.unusedSimpArgs false

/-! ### spec_l1Cur_chased: function 27 -/
def spec_l1Cur_chased.j0 : Nat → Bool → List Int → Int → Int → Int → Int → Int → Int → Option (Int × Int × Int × Int × Int × Int × Int × Int)
  | 0, _, _, _, _, _, _, _, _ => none
  | k + 1, x13, x1000, x1001, x1002, x177000, x177001, x177002, x177003 => if x13 = true then (some (x177000, x177001, x177002, x177003, x177000, wrap64 (x177001 + x177002), x1001, x1002)) else ((spec_l1Cur_one.f x1000 x1001 x1002 12).bind fun bt181 => (if bt181.1 = true then ((spec_l1Cur_among.f x1000 bt181.2.1 bt181.2.2 (([(-1), 0, 1000, 1001] : List Int))).bind fun bt187 => ((spec_l1Cur_among.f x1000 bt187.2.1 bt187.2.2 (([0, 1, 100, 101] : List Int))).bind fun bt193 => (some (x177000, x177001, x177002, x177003, bt187.1, bt193.1, bt193.2.1, bt193.2.2)))) else ((spec_l1Cur_pick.f x1000 bt181.2.1 bt181.2.2 20).bind fun bt196 => ((spec_l1Cur_pick.f x1000 bt196.2.1 bt196.2.2 6).bind fun bt199 => (some (x177000, x177001, x177002, x177003, bt196.1, wrap64 (1 + bt199.1), bt199.2.1, bt199.2.2))))))
def spec_l1Cur_chased.f (k : Nat) (s0_0 : List Int) (s0_1 : Int) (s0_2 : Int) : Option (Int × Int × Int × Int × Int × Int × Int × Int) := (spec_l1Cur_chase.f s0_0 s0_1 s0_2).bind fun bt170 => ((spec_l1Cur_one.f s0_0 bt170.2.2.2.2.1 bt170.2.2.2.2.2 8).bind fun bt177 => (if bt177.1 = true then ((spec_doGood.f bt170.1 bt170.2.1 bt170.2.2.1 bt170.2.2.2.1).bind fun t180 => (spec_l1Cur_chased.j0 k t180 s0_0 bt177.2.1 bt177.2.2 bt170.1 bt170.2.1 bt170.2.2.1 bt170.2.2.2.1)) else (spec_l1Cur_chased.j0 k false s0_0 bt177.2.1 bt177.2.2 bt170.1 bt170.2.1 bt170.2.2.1 bt170.2.2.2.1)))


def spec_l1Cur_chased.T3 : Bool × List (List Nat × List Nat) := (true, [([], []), ([], []), ([1], [1]), ([], []), ([3], [3]), ([], []), ([5], [5]), ([4, 6], [4, 6]), ([0, 0], [0]), ([2, 8, 0, 1, 2, 8], [2]), ([7, 9, 0, 1, 2, 3, 4, 5, 6, 7, 8, 9], [7])])
def spec_l1Cur_chased.B3 : List Nat := [0, 0, 2, 0, 8, 0, 32, 120, 1, 263, 1023]
theorem spec_l1Cur_chased.tab3 : rtab .any (opsOf Tryz.f27 3) = spec_l1Cur_chased.T3 := by kernel_rfl
theorem spec_l1Cur_chased.bits3 : waitsOk spec_l1Cur_chased.T3.2 spec_l1Cur_chased.B3 = true := by kernel_rfl
def spec_l1Cur_chased.T5 : Bool × List (List Nat × List Nat) := (true, [([], []), ([], []), ([], []), ([1, 2], [1, 2]), ([], []), ([], []), ([4, 5, 3], [4, 5]), ([0, 6, 0], [0]), ([3, 7, 0, 1, 2, 3, 7], [3]), ([6, 8, 0, 1, 2, 3, 4, 5, 6, 7, 8], [6])])
def spec_l1Cur_chased.B5 : List Nat := [0, 0, 0, 6, 0, 0, 62, 127, 255, 511]
theorem spec_l1Cur_chased.tab5 : rtab .any (opsOf Tryz.f27 5) = spec_l1Cur_chased.T5 := by kernel_rfl
theorem spec_l1Cur_chased.bits5 : waitsOk spec_l1Cur_chased.T5.2 spec_l1Cur_chased.B5 = true := by kernel_rfl
def spec_l1Cur_chased.T6 : Bool × List (List Nat × List Nat) := (true, [([], []), ([], []), ([1], [1]), ([], []), ([3, 2], [3]), ([4], [4]), ([0, 4, 0], [0]), ([2, 6, 0, 1, 2, 6], [2]), ([5, 7, 0, 1, 2, 3, 4, 5, 6, 7], [5])])
def spec_l1Cur_chased.B6 : List Nat := [0, 0, 2, 0, 14, 30, 31, 95, 255]
theorem spec_l1Cur_chased.tab6 : rtab .any (opsOf Tryz.f27 6) = spec_l1Cur_chased.T6 := by kernel_rfl
theorem spec_l1Cur_chased.bits6 : waitsOk spec_l1Cur_chased.T6.2 spec_l1Cur_chased.B6 = true := by kernel_rfl
set_option maxHeartbeats 8000000 in
set_option maxRecDepth 100000 in
theorem spec_l1Cur_chased.calls (k : Nat) (g : Nat) (s0_0 : List Int) (s0_1 : Int) (s0_2 : Int) (r1 : Int) (r2 : Int) (r3 : Int) (r4 : Int) (r5 : Int) (r6 : Int) (r7 : Int) (r8 : Int) (w0 w : World) (hI : IsS55 w0 w g s0_0 s0_1 s0_2) (hB : Below w0.heap.size w0 w) (h : spec_l1Cur_chased.f k s0_0 s0_1 s0_2 = some (r1, r2, r3, r4, r5, r6, r7, r8)) :
  Calls Tryz.prog 27 #[.pointer (some ⟨g, 0, none⟩)] w fun e w' => e = .returned (.tuple #[.agg #[.int .i64 r1, .int .i64 r2, .int .i64 r3, .int .i64 r4], .int .i64 r5, .int .i64 r6]) ∧ IsS55 w0 w' g s0_0 r7 r8 ∧ Below w0.heap.size w0 w' ∧ KeepBut w w' g none := by
 have hu25 := Tryz.underlying25
 have HI0 := Aside0.mk hI
 have HK := Aside0.mk (KeepBut.refl w g none)
 have HL := Aside0.mk hB.size
 clear hI
 have HW0 := Aside0.mk hB.size
 have HB := Aside0.mk hB
 clear hB
 have H := h
 unfold spec_l1Cur_chased.f at H
 clear h
 replace H := Option.bind_eq_some_iff.mp H
 obtain ⟨⟨t170, t171, t172, t173, t174, t175⟩, A20, H⟩ := H
 (try dsimp only at H)
 have A2 := Aside0.mk A20
 clear A20
 have HC3 := Aside0.mk H
 clear H
 go_enter Tryz.func27, Tryz.ntmps27
 go_upto_region 2 with (first | ((with_reducible refine gate_dst (N := 2) rfl ?_); refine be_ 2 #[.int .i64 0, .int .i64 0, .int .i64 0, .int .i64 0] 25 ?_; intro gb169 hg w4 hbox hb; have n0_ := Aside0.mk (IsS55.below is_ hb); have n1_ := Aside0.mk (KeepBut.trans (ke_ (w := w)) (KeepBut.of_below hb g none) (.inl rfl)); have n2_ := Aside0.mk (below_step bx_ hb); have n3_ := Aside0.mk (hbox); have n4_ := Aside0.mk ((by rw [hg]; exact (keep_size (w := w) (g := g) (row := none) ke_) : w.heap.size ≤ gb169)); have n5_ := Aside0.mk ((Nat.le_trans HW0.out (by rw [hg]; exact (keep_size (w := w) (g := g) (row := none) ke_) : w.heap.size ≤ gb169) : w0.heap.size ≤ gb169)); have n6_ := Aside0.mk ((by rw [hg]; exact Nat.ne_of_lt (IsS55.lt (show IsS55 w0 _ g s0_0 s0_1 s0_2 from is_)) : g ≠ gb169)); have n7_ := Aside0.mk ((by rw [hg]; exact Nat.ne_of_gt (IsS55.lt (show IsS55 w0 _ g s0_0 s0_1 s0_2 from is_)) : gb169 ≠ g)); clear HI0; clear HK; clear HB; have HI0 := n0_; have HK := n1_; have HB := n2_; have BK169 := n3_; have GW169 := n4_; have GE169 := n5_; have NB0_169 := n6_; have NB169_0 := n7_; clear n0_ n1_ n2_ n3_ n4_ n5_ n6_ n7_; clear hb hbox hg) | ((with_reducible refine gate_callee (f := 54) rfl ?_); refine gl_ (some 7) Tryz.func54 #[.pointer (some ⟨g, 0, none⟩)] ?_; (with_reducible refine (spec_l1Cur_chase.calls g s0_0 s0_1 s0_2 t170 t171 t172 t173 t174 t175 w0 _ ?side1 ?side2 A2.out).mono ?_); (case side1 => exact is_); (case side2 => exact bx_); rintro e w5 ⟨rfl, hi, hb, hk⟩; refine ⟨_, rfl, ?_⟩; have n0_ := Aside0.mk (kb_ BK169.out hk NB169_0.out); have n1_ := Aside0.mk (KeepBut.trans (ke_ (w := w)) hk (.inl rfl)); have n2_ := Aside0.mk (hb); have n3_ := Aside0.mk (hi); clear BK169; clear HK; clear HB; clear HI0; have BK169 := n0_; have HK := n1_; have HB := n2_; have HI0 := n3_; clear n0_ n1_ n2_ n3_; (try clear hb); (try clear hb2); (try clear hk); (try clear hi)) | ((with_reducible refine gate_dst (N := 5) rfl ?_); refine be_ 5 #[.int .i64 0, .int .i64 0, .int .i64 0, .int .i64 0] 25 ?_; intro gb176 hg w6 hbox hb; have n0_ := Aside0.mk (IsS55.below is_ hb); have n1_ := Aside0.mk (bb_ BK169.out hb); have n2_ := Aside0.mk (KeepBut.trans (ke_ (w := w)) (KeepBut.of_below hb g none) (.inl rfl)); have n3_ := Aside0.mk (below_step bx_ hb); have n4_ := Aside0.mk (hbox); have n5_ := Aside0.mk ((by rw [hg]; exact (keep_size (w := w) (g := g) (row := none) ke_) : w.heap.size ≤ gb176)); have n6_ := Aside0.mk ((Nat.le_trans HW0.out (by rw [hg]; exact (keep_size (w := w) (g := g) (row := none) ke_) : w.heap.size ≤ gb176) : w0.heap.size ≤ gb176)); have n7_ := Aside0.mk (nl_ BK169.out hg); have n8_ := Aside0.mk (ng_ BK169.out hg); have n9_ := Aside0.mk ((by rw [hg]; exact Nat.ne_of_lt (IsS55.lt (show IsS55 w0 _ g s0_0 t174 t175 from is_)) : g ≠ gb176)); have n10_ := Aside0.mk ((by rw [hg]; exact Nat.ne_of_gt (IsS55.lt (show IsS55 w0 _ g s0_0 t174 t175 from is_)) : gb176 ≠ g)); clear HI0; clear BK169; clear HK; clear HB; have HI0 := n0_; have BK169 := n1_; have HK := n2_; have HB := n3_; have BK176 := n4_; have GW176 := n5_; have GE176 := n6_; have NB169_176 := n7_; have NB176_169 := n8_; have NB0_176 := n9_; have NB176_0 := n10_; clear n0_ n1_ n2_ n3_ n4_ n5_ n6_ n7_ n8_ n9_ n10_; clear hb hbox hg; have hnb7 := NB176_169.out; have hnc7 := NB169_176.out; have hnb8 := NB176_0.out; have hnc8 := NB0_176.out; obtain ⟨hcz9_0, hcz9_1, hcz9_2, hcz9_3, hfz9_0, hfz9_1, hfz9_2, hfz9_3⟩ := four_ BK176.out))
 (try simp only [Act.put, List.setIfInBounds_toArray, List.set_cons_zero, List.set_cons_succ])
 go_cut [13] (fun v13 wc => ∃ (kq : Nat) (x13_2 : Bool) (x1001_2 : Int) (x1002_2 : Int), v13 = .bool x13_2 ∧ Aside0 (spec_l1Cur_chased.j0 kq x13_2 s0_0 x1001_2 x1002_2 t170 t171 t172 t173 = some (r1, r2, r3, r4, r5, r6, r7, r8)) ∧ Aside0 (kq ≤ k) ∧ Aside0 (wc.heap[gb169]? = some (.cells #[.int .i64 0, .int .i64 0, .int .i64 0, .int .i64 0] 25 (0, 0))) ∧ Aside0 (wc.heap[gb176]? = some (.cells #[.int .i64 t170, .int .i64 t171, .int .i64 t172, .int .i64 t173] 25 (0, 0))) ∧ Aside0 (IsS55 w0 wc g s0_0 x1001_2 x1002_2) ∧ Aside0 (KeepBut w wc g none) ∧ Aside0 (Below w0.heap.size w0 wc))
 case first =>
  have H := HC3.out
  clear HC3
  replace H := Option.bind_eq_some_iff.mp H
  obtain ⟨⟨t177, t178, t179⟩, A100, H⟩ := H
  (try dsimp only at H)
  have A10 := Aside0.mk A100
  clear A100
  by_cases c11 : t177 = true
  ·
   subst c11
   rw [if_pos rfl] at H
   replace H := Option.bind_eq_some_iff.mp H
   obtain ⟨t180, A120, H⟩ := H
   (try dsimp only at H)
   have A12 := Aside0.mk A120
   clear A120
   have H' := Aside0.mk H
   clear H
   go_wp2_with (first | ((with_reducible refine gate_callee (f := 46) rfl ?_); refine gl_ (some 9) Tryz.func46 #[.pointer (some ⟨g, 0, none⟩), .int .i64 8] ?_; (with_reducible refine (spec_l1Cur_one.calls g s0_0 t174 t175 8 true t178 t179 w0 _ ?side1 ?side2 A10.out).mono ?_); (case side1 => exact is_); (case side2 => exact bx_); rintro e w13 ⟨rfl, hi, hb, hk⟩; refine ⟨_, rfl, ?_⟩; have n0_ := Aside0.mk (KeepBut.blk hk (g' := gb169) (o := .cells #[.int .i64 0, .int .i64 0, .int .i64 0, .int .i64 0] 25 (0, 0)) bf_ NB169_0.out (by simp)); have n1_ := Aside0.mk (KeepBut.blk hk (g' := gb176) (o := .cells #[.int .i64 t170, .int .i64 t171, .int .i64 t172, .int .i64 t173] 25 (0, 0)) (by (with_reducible repeat (first | refine blk_drewN ?_ _ | refine blk_drew ?_ | refine blk_alloc ?_ _)); refine blk_put (cs := #[.int .i64 t170, .int .i64 t171, .int .i64 t172, .int .i64 0]) ?_ 3 _ rfl; (with_reducible repeat (first | refine blk_drewN ?_ _ | refine blk_drew ?_ | refine blk_alloc ?_ _)); refine blk_put (cs := #[.int .i64 t170, .int .i64 t171, .int .i64 0, .int .i64 0]) ?_ 2 _ rfl; (with_reducible repeat (first | refine blk_drewN ?_ _ | refine blk_drew ?_ | refine blk_alloc ?_ _)); refine blk_put (cs := #[.int .i64 t170, .int .i64 0, .int .i64 0, .int .i64 0]) ?_ 1 _ rfl; (with_reducible repeat (first | refine blk_drewN ?_ _ | refine blk_drew ?_ | refine blk_alloc ?_ _)); refine blk_put (cs := #[.int .i64 0, .int .i64 0, .int .i64 0, .int .i64 0]) ?_ 0 _ rfl; (with_reducible repeat (first | refine blk_drewN ?_ _ | refine blk_drew ?_ | refine blk_alloc ?_ _)); exact BK176.out) NB176_0.out (by simp)); have n2_ := Aside0.mk (KeepBut.trans (ke_ (w := w)) hk (.inl rfl)); have n3_ := Aside0.mk (hb); have n4_ := Aside0.mk (hi); clear BK169; clear BK176; clear HK; clear HB; clear HI0; have BK169 := n0_; have BK176 := n1_; have HK := n2_; have HB := n3_; have HI0 := n4_; clear n0_ n1_ n2_ n3_ n4_; (try clear hb); (try clear hb2); (try clear hk); (try clear hi); have hnb14 := NB176_169.out; have hnc14 := NB169_176.out; have hnb15 := NB176_0.out; have hnc15 := NB0_176.out; obtain ⟨hcz16_0, hcz16_1, hcz16_2, hcz16_3, hfz16_0, hfz16_1, hfz16_2, hfz16_3⟩ := four_ BK176.out) | (go_at_call 32; (with_reducible refine (spec_doGood.calls t170 t171 t172 t173 t180 _ A12.out).mono ?_); rintro e w17 ⟨rfl, hb⟩; have n0_ := Aside0.mk (IsS55.below is_ hb); have n1_ := Aside0.mk (bb_ BK169.out hb); have n2_ := Aside0.mk (bb_ BK176.out hb); have n3_ := Aside0.mk (KeepBut.trans (ke_ (w := w)) (KeepBut.of_below hb g none) (.inl rfl)); have n4_ := Aside0.mk (below_step bx_ hb); clear HI0; clear BK169; clear BK176; clear HK; clear HB; have HI0 := n0_; have BK169 := n1_; have BK176 := n2_; have HK := n3_; have HB := n4_; clear n0_ n1_ n2_ n3_ n4_; (try clear hb); (try clear hb2); (try clear hk); (try clear hi)))
   go_meet
   case rel => exact ⟨_, (t180), (t178), (t179), (rs_), H', ⟨by first | omega | exact Nat.le_refl _⟩, ⟨bk_⟩, ⟨bk_⟩, ⟨is_⟩, ⟨ke_⟩, ⟨bx_⟩⟩
  ·
   replace c11 := Bool.eq_false_iff.mpr c11
   subst c11
   rw [if_neg (show ¬ (false = true) by decide)] at H
   have H' := Aside0.mk H
   clear H
   go_wp2_with (first | ((with_reducible refine gate_callee (f := 46) rfl ?_); refine gl_ (some 9) Tryz.func46 #[.pointer (some ⟨g, 0, none⟩), .int .i64 8] ?_; (with_reducible refine (spec_l1Cur_one.calls g s0_0 t174 t175 8 false t178 t179 w0 _ ?side1 ?side2 A10.out).mono ?_); (case side1 => exact is_); (case side2 => exact bx_); rintro e w18 ⟨rfl, hi, hb, hk⟩; refine ⟨_, rfl, ?_⟩; have n0_ := Aside0.mk (KeepBut.blk hk (g' := gb169) (o := .cells #[.int .i64 0, .int .i64 0, .int .i64 0, .int .i64 0] 25 (0, 0)) bf_ NB169_0.out (by simp)); have n1_ := Aside0.mk (KeepBut.blk hk (g' := gb176) (o := .cells #[.int .i64 t170, .int .i64 t171, .int .i64 t172, .int .i64 t173] 25 (0, 0)) (by (with_reducible repeat (first | refine blk_drewN ?_ _ | refine blk_drew ?_ | refine blk_alloc ?_ _)); refine blk_put (cs := #[.int .i64 t170, .int .i64 t171, .int .i64 t172, .int .i64 0]) ?_ 3 _ rfl; (with_reducible repeat (first | refine blk_drewN ?_ _ | refine blk_drew ?_ | refine blk_alloc ?_ _)); refine blk_put (cs := #[.int .i64 t170, .int .i64 t171, .int .i64 0, .int .i64 0]) ?_ 2 _ rfl; (with_reducible repeat (first | refine blk_drewN ?_ _ | refine blk_drew ?_ | refine blk_alloc ?_ _)); refine blk_put (cs := #[.int .i64 t170, .int .i64 0, .int .i64 0, .int .i64 0]) ?_ 1 _ rfl; (with_reducible repeat (first | refine blk_drewN ?_ _ | refine blk_drew ?_ | refine blk_alloc ?_ _)); refine blk_put (cs := #[.int .i64 0, .int .i64 0, .int .i64 0, .int .i64 0]) ?_ 0 _ rfl; (with_reducible repeat (first | refine blk_drewN ?_ _ | refine blk_drew ?_ | refine blk_alloc ?_ _)); exact BK176.out) NB176_0.out (by simp)); have n2_ := Aside0.mk (KeepBut.trans (ke_ (w := w)) hk (.inl rfl)); have n3_ := Aside0.mk (hb); have n4_ := Aside0.mk (hi); clear BK169; clear BK176; clear HK; clear HB; clear HI0; have BK169 := n0_; have BK176 := n1_; have HK := n2_; have HB := n3_; have HI0 := n4_; clear n0_ n1_ n2_ n3_ n4_; (try clear hb); (try clear hb2); (try clear hk); (try clear hi)))
   go_meet
   case rel => exact ⟨_, (false), (t178), (t179), (rs_), H', ⟨by first | omega | exact Nat.le_refl _⟩, ⟨bk_⟩, ⟨bk_⟩, ⟨is_⟩, ⟨ke_⟩, ⟨bx_⟩⟩
 case rest =>
  clear HC3
  try clear c1
  try clear c2
  try clear p2
  try clear c4
  try clear c5
  try clear c7
  try clear c8
  try clear c11
  try clear c14
  try clear c15
  try clear hcz16_0
  try clear hcz16_1
  try clear hcz16_2
  try clear hcz16_3
  try clear hcz9_0
  try clear hcz9_1
  try clear hcz9_2
  try clear hcz9_3
  try clear hfz16_0
  try clear hfz16_1
  try clear hfz16_2
  try clear hfz16_3
  try clear hfz9_0
  try clear hfz9_1
  try clear hfz9_2
  try clear hfz9_3
  obtain ⟨kq, x13_2, x1001_2, x1002_2, rfl, HA, HJ2, BK169, BK176, HI0, HK, HB⟩ := hcut
  cases kq with
    | zero => exact absurd HA.out (by simp [spec_l1Cur_chased.j0])
    | succ kj2 =>
   have H := HA.out
   clear HA
   simp only [spec_l1Cur_chased.j0] at H
   by_cases c19 : x13_2 = true
   ·
    subst c19
    rw [if_pos rfl] at H
    simp only [Option.some.injEq, Prod.mk.injEq] at H
    obtain ⟨rfl, rfl, rfl, rfl, rfl, rfl, rfl, rfl⟩ := H
    try go_wp2
    have n0_ := Aside0.mk (blk_drew BK169.out)
    have n1_ := Aside0.mk (blk_drew BK176.out)
    have n2_ := Aside0.mk (IsS55.drew HI0.out)
    have n3_ := Aside0.mk (keep_drew HK.out)
    have n4_ := Aside0.mk (below_drew1 HB.out)
    clear BK169
    clear BK176
    clear HI0
    clear HK
    clear HB
    have BK169 := n0_
    have BK176 := n1_
    have HI0 := n2_
    have HK := n3_
    have HB := n4_
    clear n0_ n1_ n2_ n3_ n4_
    refine start_ (n := 11) (S := fun w' => w'.cell? ⟨gb176, 0, none⟩ = some (.int .i64 t170) ∧ w'.cell? ⟨gb176, 1, none⟩ = some (.int .i64 t171) ∧ w'.cell? ⟨gb176, 2, none⟩ = some (.int .i64 t172) ∧ w'.cell? ⟨gb176, 3, none⟩ = some (.int .i64 t173)) (ds := []) #[false, false, false, false, false, false, false, false, false, false, false] (by kernel_rfl) rfl rfl ⟨(blk_cell BK176.out 0).trans rfl, (blk_cell BK176.out 1).trans rfl, (blk_cell BK176.out 2).trans rfl, (blk_cell BK176.out 3).trans rfl⟩ (fun hHeld => ?_); refine with_tabW spec_l1Cur_chased.tab3 spec_l1Cur_chased.bits3 (fun HT_ HW_ => ?_)
    generalize wc.drew = w20 at BK169 BK176 HI0 HK HB hHeld ⊢
    refine pu_ 1 15 11 2 ?_
    refine pu_ 3 17 11 10 ?_
    refine pu_ 5 19 11 42 ?_
    refine tk_ 0 14 11 43 hHeld ?_
    refine tk_ 2 16 11 47 hHeld ?_
    refine tk_ 4 18 11 63 hHeld ?_
    refine tk_ 6 20 11 127 hHeld ?_
    refine pu_ 7 21 11 255 ?_
    refine one_ (i := 8) (N := none) (pm_ 11 511) rfl rfl (one_of HT_.out (by kernel_rfl)) (by decide) (fun K hK => ?_)
    have hs21 : w20.cell? ⟨gb169, 0, none⟩ = some (.int .i64 0) := (blk_cell BK169.out 0).trans rfl
    have hfs21 := blk_frozen BK169.out 0
    have hns21_1 := NB176_169.out
    have hms21_1 := NB169_176.out
    have hs22 : w20.cell? ⟨gb169, 1, none⟩ = some (.int .i64 0) := (blk_cell BK169.out 1).trans rfl
    have hfs22 := blk_frozen BK169.out 1
    have hns22_1 := NB176_169.out
    have hms22_1 := NB169_176.out
    have hs23 : w20.cell? ⟨gb169, 2, none⟩ = some (.int .i64 0) := (blk_cell BK169.out 2).trans rfl
    have hfs23 := blk_frozen BK169.out 2
    have hns23_1 := NB176_169.out
    have hms23_1 := NB169_176.out
    have hs24 : w20.cell? ⟨gb169, 3, none⟩ = some (.int .i64 0) := (blk_cell BK169.out 3).trans rfl
    have hfs24 := blk_frozen BK169.out 3
    have hns24_1 := NB176_169.out
    have hms24_1 := NB169_176.out
    refine skip_ (w1 := ?_) (by rfl) rfl ?_ ?_
    rotate_left
    ·
     go_simp
     rfl
    refine hK.out _ _ ⟨((cell_far (p := ⟨gb169, _, none⟩) NB176_169.out _).trans (((cell_far (p := ⟨gb169, _, none⟩) NB176_169.out _).trans (((cell_far (p := ⟨gb169, _, none⟩) NB176_169.out _).trans (((cell_far (p := ⟨gb169, _, none⟩) NB176_169.out _).trans (hHeld.1)))))))), ((cell_far (p := ⟨gb169, _, none⟩) NB176_169.out _).trans (((cell_far (p := ⟨gb169, _, none⟩) NB176_169.out _).trans (((cell_far (p := ⟨gb169, _, none⟩) NB176_169.out _).trans (((cell_far (p := ⟨gb169, _, none⟩) NB176_169.out _).trans (hHeld.2.1)))))))), ((cell_far (p := ⟨gb169, _, none⟩) NB176_169.out _).trans (((cell_far (p := ⟨gb169, _, none⟩) NB176_169.out _).trans (((cell_far (p := ⟨gb169, _, none⟩) NB176_169.out _).trans (((cell_far (p := ⟨gb169, _, none⟩) NB176_169.out _).trans (hHeld.2.2.1)))))))), ((cell_far (p := ⟨gb169, _, none⟩) NB176_169.out _).trans (((cell_far (p := ⟨gb169, _, none⟩) NB176_169.out _).trans (((cell_far (p := ⟨gb169, _, none⟩) NB176_169.out _).trans (((cell_far (p := ⟨gb169, _, none⟩) NB176_169.out _).trans (hHeld.2.2.2))))))))⟩ (fun hHeld => ?_)
    clear hK K
    refine pu_ 9 3 11 1023 ?_
    refine pu_ 10 4 11 2047 ?_
    refine done_ (done_of HT_.out (by kernel_rfl)) ?_
    try go_wp2
    refine bodyPost_ret (results_ctt rfl _ _ gb169 25 #[.int .i64 t170, .int .i64 t171, .int .i64 t172, .int .i64 t173] (0, 0) _ rfl (by (with_reducible repeat (first | refine blk_drewN ?_ _ | refine blk_drew ?_ | refine blk_alloc ?_ _)); refine blk_put (cs := #[.int .i64 t170, .int .i64 t171, .int .i64 t172, .int .i64 0]) ?_ 3 _ rfl; (with_reducible repeat (first | refine blk_drewN ?_ _ | refine blk_drew ?_ | refine blk_alloc ?_ _)); refine blk_put (cs := #[.int .i64 t170, .int .i64 t171, .int .i64 0, .int .i64 0]) ?_ 2 _ rfl; (with_reducible repeat (first | refine blk_drewN ?_ _ | refine blk_drew ?_ | refine blk_alloc ?_ _)); refine blk_put (cs := #[.int .i64 t170, .int .i64 0, .int .i64 0, .int .i64 0]) ?_ 1 _ rfl; (with_reducible repeat (first | refine blk_drewN ?_ _ | refine blk_drew ?_ | refine blk_alloc ?_ _)); refine blk_put (cs := #[.int .i64 0, .int .i64 0, .int .i64 0, .int .i64 0]) ?_ 0 _ rfl; (with_reducible repeat (first | refine blk_drewN ?_ _ | refine blk_drew ?_ | refine blk_alloc ?_ _)); exact BK169.out) Tryz.underlying25 rfl (by kernel_rfl)) rfl ?_
    exact ⟨rt_, is_, bx_, ke_⟩
   ·
    replace c19 := Bool.eq_false_iff.mpr c19
    subst c19
    rw [if_neg (show ¬ (false = true) by decide)] at H
    replace H := Option.bind_eq_some_iff.mp H
    obtain ⟨⟨t181, t182, t183⟩, A250, H⟩ := H
    (try dsimp only at H)
    have A25 := Aside0.mk A250
    clear A250
    by_cases c26 : t181 = true
    ·
     subst c26
     rw [if_pos rfl] at H
     obtain ⟨y184, hy184⟩ : ∃ y_ : List Int, y_ = (([(-1), 0, 1000, 1001] : List Int)) := ⟨_, rfl⟩
     replace H : ((spec_l1Cur_among.f s0_0 t182 t183 y184).bind fun bt187 => ((spec_l1Cur_among.f s0_0 bt187.2.1 bt187.2.2 (([0, 1, 100, 101] : List Int))).bind fun bt193 => (some (t170, t171, t172, t173, bt187.1, bt193.1, bt193.2.1, bt193.2.2)))) = some (r1, r2, r3, r4, r5, r6, r7, r8) := by first | (rw [hy184]; with_reducible exact H) | (have H2_ := (Option.bind_some _ _).symm.trans H; rw [hy184]; with_reducible exact H2_) | (have H2_ := (Option.bind_some _ _).symm.trans H; with_reducible exact H2_) | with_reducible exact H | (rw [hy184]; exact H) | exact H
     have Ny184 := Aside0.mk hy184
     clear hy184
     replace H := Option.bind_eq_some_iff.mp H
     obtain ⟨⟨t187, t188, t189⟩, A270, H⟩ := H
     (try dsimp only at H)
     have A27 := Aside0.mk A270
     clear A270
     obtain ⟨y190, hy190⟩ : ∃ y_ : List Int, y_ = (([0, 1, 100, 101] : List Int)) := ⟨_, rfl⟩
     replace H : ((spec_l1Cur_among.f s0_0 t188 t189 y190).bind fun bt193 => (some (t170, t171, t172, t173, t187, bt193.1, bt193.2.1, bt193.2.2))) = some (r1, r2, r3, r4, r5, r6, r7, r8) := by first | (rw [hy190]; with_reducible exact H) | (have H2_ := (Option.bind_some _ _).symm.trans H; rw [hy190]; with_reducible exact H2_) | (have H2_ := (Option.bind_some _ _).symm.trans H; with_reducible exact H2_) | with_reducible exact H | (rw [hy190]; exact H) | exact H
     have Ny190 := Aside0.mk hy190
     clear hy190
     replace H := Option.bind_eq_some_iff.mp H
     obtain ⟨⟨t193, t194, t195⟩, A280, H⟩ := H
     (try dsimp only at H)
     have A28 := Aside0.mk A280
     clear A280
     simp only [Option.some.injEq, Prod.mk.injEq] at H
     obtain ⟨rfl, rfl, rfl, rfl, rfl, rfl, rfl, rfl⟩ := H
     try go_wp2_with (first | ((with_reducible refine gate_callee (f := 46) rfl ?_); refine gl_ (some 23) Tryz.func46 #[.pointer (some ⟨g, 0, none⟩), .int .i64 12] ?_; (with_reducible refine (spec_l1Cur_one.calls g s0_0 x1001_2 x1002_2 12 true t182 t183 w0 _ ?side1 ?side2 A25.out).mono ?_); (case side1 => exact is_); (case side2 => exact bx_); rintro e w29 ⟨rfl, hi, hb, hk⟩; refine ⟨_, rfl, ?_⟩; have n0_ := Aside0.mk (kb_ BK169.out hk NB169_0.out); have n1_ := Aside0.mk (kb_ BK176.out hk NB176_0.out); have n2_ := Aside0.mk (KeepBut.trans (ke_ (w := w)) hk (.inl rfl)); have n3_ := Aside0.mk (hb); have n4_ := Aside0.mk (hi); clear BK169; clear BK176; clear HK; clear HB; clear HI0; have BK169 := n0_; have BK176 := n1_; have HK := n2_; have HB := n3_; have HI0 := n4_; clear n0_ n1_ n2_ n3_ n4_; (try clear hb); (try clear hb2); (try clear hk); (try clear hi)))
     have n0_ := Aside0.mk (blk_drew BK169.out)
     have n1_ := Aside0.mk (blk_drew BK176.out)
     have n2_ := Aside0.mk (IsS55.drew HI0.out)
     have n3_ := Aside0.mk (keep_drew HK.out)
     have n4_ := Aside0.mk (below_drew1 HB.out)
     clear BK169
     clear BK176
     clear HI0
     clear HK
     clear HB
     have BK169 := n0_
     have BK176 := n1_
     have HI0 := n2_
     have HK := n3_
     have HB := n4_
     clear n0_ n1_ n2_ n3_ n4_
     refine start_ (n := 10) (S := fun w' => True) (ds := []) #[false, false, false, false, false, false, false, false, false, false] (by kernel_rfl) rfl rfl trivial (fun hHeld => ?_); refine with_tabW spec_l1Cur_chased.tab5 spec_l1Cur_chased.bits5 (fun HT_ HW_ => ?_)
     generalize w29.drew = w30 at BK169 BK176 HI0 HK HB hHeld ⊢
     refine pu_ 1 25 10 2 ?_
     refine pu_ 4 28 10 18 ?_
     refine inv_at [0, 2, 3, 5, 6, 7, 8, 9] (fun a0_ b a w' => ∃ (v185 : Value) (v191 : Value), a = putSel a0_ b [(0, 24, .agg #[.int .i64 t170, .int .i64 t171, .int .i64 t172, .int .i64 t173]), (2, 26, v185), (3, 27, .int .i64 t187), (5, 29, v191), (6, 30, .int .i64 t193), (8, 3, .int .i64 t187), (9, 4, .int .i64 t193)] ∧ (b 7 = false → w'.heap[gb169]? = some (.cells #[.int .i64 0, .int .i64 0, .int .i64 0, .int .i64 0] 25 (0, 0))) ∧ (w'.heap[gb176]? = some (.cells #[.int .i64 t170, .int .i64 t171, .int .i64 t172, .int .i64 t173] 25 (0, 0))) ∧ (b 3 = false → IsS55 w0 w' g s0_0 t182 t183) ∧ (KeepBut w w' g none) ∧ (Below w0.heap.size w0 w') ∧ (b 2 = true → Kd.R (Kd.int .i64) 3 w' w.heap.size (fun _ => True) v185 y184) ∧ (b 3 = true → b 6 = false → IsS55 w0 w' g s0_0 t188 t189) ∧ (b 5 = true → Kd.R (Kd.int .i64) 3 w' w.heap.size (fun _ => True) v191 y190) ∧ (b 6 = true → IsS55 w0 w' g s0_0 t194 t195) ∧ (b 7 = true → w'.heap[gb169]? = some (.cells #[.int .i64 t170, .int .i64 t171, .int .i64 t172, .int .i64 t173] 25 (0, 0)))) HT_.out HW_.out (by kernel_rfl) (by kernel_rfl) ?_ ?_ ?_
     ·
      exact ⟨.bool false, .bool false, by simp only [putSel, Bool.false_eq_true, if_false], fun _ => BK169.out, BK176.out, fun _ => HI0.out, HK.out, HB.out, fun h_ => absurd h_ (by decide), fun h_ => absurd h_ (by decide), fun h_ => absurd h_ (by decide), fun h_ => absurd h_ (by decide), fun h_ => absurd h_ (by decide)⟩
     ·
      skip
      clear BK169 BK176 HB HI0 HK
      refine steps_cons ?_ ?_
      ·
       rintro b a w' ⟨v185, v191, ha, Q_BK169, Q_BK176, Q_HI0, Q_HK, Q_HB, Q_HO186, Q_HI0_e3, Q_HO192, Q_HI0_e6, Q_BK169_e7⟩ hb_ hon hoff
       refine ⟨_, rfl, fun K hK => ?_⟩
       have e5 : a.tmps[5]? = some (.pointer (some ⟨gb176, 0, none⟩)) := by rw [ha]; exact (putSel_off rfl).trans rfl
       replace ha := Aside0.mk ha
       have BK169 := Aside0.mk (Q_BK169 (hoff 7 (by kernel_rfl)))
       have BK176 := Aside0.mk Q_BK176
       have HK := Aside0.mk Q_HK
       have HB := Aside0.mk Q_HB
       have hc0_ : w'.cell? ⟨gb176, 0, none⟩ = some (.int .i64 t170) := (blk_cell BK176.out 0).trans rfl
       have hc1_ : w'.cell? ⟨gb176, 1, none⟩ = some (.int .i64 t171) := (blk_cell BK176.out 1).trans rfl
       have hc2_ : w'.cell? ⟨gb176, 2, none⟩ = some (.int .i64 t172) := (blk_cell BK176.out 2).trans rfl
       have hc3_ : w'.cell? ⟨gb176, 3, none⟩ = some (.int .i64 t173) := (blk_cell BK176.out 3).trans rfl
       refine value_ (w1 := w') (v := .agg #[.int .i64 t170, .int .i64 t171, .int .i64 t172, .int .i64 t173]) (by rfl) rfl ?_ ?_
       ·
        go_simp
        (try simp only [i64_w])
        try rfl
       refine hK.out _ _ ⟨v185, v191, (by rw [ha.out]; exact putSel_upk 0 hb_ rfl rfl rfl), Q_BK169, Q_BK176, Q_HI0, Q_HK, Q_HB, Q_HO186, Q_HI0_e3, Q_HO192, Q_HI0_e6, fun h0_ => absurd ((hoff 7 (by kernel_rfl)).symm.trans h0_) (by decide)⟩
      refine steps_cons ?_ ?_
      ·
       rintro b a w' ⟨v185, v191, ha, Q_BK169, Q_BK176, Q_HI0, Q_HK, Q_HB, Q_HO186, Q_HI0_e3, Q_HO192, Q_HI0_e6, Q_BK169_e7⟩ hb_ hon hoff
       refine ⟨_, rfl, fun K hK => ?_⟩
       replace ha := Aside0.mk ha
       have BK169 := Aside0.mk (Q_BK169 (hoff 7 (by kernel_rfl)))
       have BK176 := Aside0.mk Q_BK176
       have HI0 := Aside0.mk (Q_HI0 (hoff 3 (by kernel_rfl)))
       have HK := Aside0.mk Q_HK
       have HB := Aside0.mk Q_HB
       refine Kd.R_lit_step (Kd.int .i64) _ 3 ?hg (N := 26) ?hd (xs := ([(-1), 0, 1000, 1001] : List Int)) (inner := [.int .i64 (-1), .int .i64 0, .int .i64 1000, .int .i64 1001]) (ok := fun _ => True) (okp := fun _ => True) ?hr ?hp (fun _ hk => hk) trivial (Below.refl _ _) (Nat.le_refl _) (by simp) ?_; (case hd => rfl); (case hg => rfl); (case hr => first | (go_simp; done) | (go_simp; rfl)); (case hp => exact (Reps.one (show Kd.M (Kd.int .i64) _ _ _ (-1) [.int .i64 (-1)] from rfl) (Reps.one (show Kd.M (Kd.int .i64) _ _ _ 0 [.int .i64 0] from rfl) (Reps.one (show Kd.M (Kd.int .i64) _ _ _ 1000 [.int .i64 1000] from rfl) (Reps.one (show Kd.M (Kd.int .i64) _ _ _ 1001 [.int .i64 1001] from rfl) (Reps.none _ _))))))
       intro v185 w31 ho32 hb hg_ hnew_
       clear hg_ hnew_
       (first | rw [← Ny184.out] at ho32 | (simp only [Int.reduceToNat] at ho32; rw [← Ny184.out] at ho32))
       have n0_ := Aside0.mk (Kd.R_lower ho32 (keep_size (w := w) (g := g) (row := none) ke_))
       have n1_ := Aside0.mk (bb_ BK169.out hb)
       have n2_ := Aside0.mk (bb_ BK176.out hb)
       have n3_ := Aside0.mk (IsS55.below is_ hb)
       have n4_ := Aside0.mk (KeepBut.trans (ke_ (w := w)) (KeepBut.of_below hb g none) (.inl rfl))
       have n5_ := Aside0.mk (below_step bx_ hb)
       have z_HO192 := fun (h0_ : b 5 = true) => (show Kd.R (Kd.int .i64) 3 w31 w.heap.size (fun _ => True) v191 y190 from by first | exact (Kd.R_elder' (by (with_reducible repeat (first | apply Kd.R_alloc | apply Kd.R_drewN | apply Kd.R_drew)); exact (Q_HO192 h0_)) (Kd.R_base ho32) hb) | exact Kd.R_mono (Kd.R_elder' (by (with_reducible repeat (first | apply Kd.R_alloc | apply Kd.R_drewN | apply Kd.R_drew)); exact (Q_HO192 h0_)) (Kd.R_base ho32) hb) (fun _ h_ => by first | trivial | exact h_ | exact h_.1))
       clear BK169
       clear BK176
       clear HI0
       clear HK
       clear HB
       have HO186 := n0_
       have BK169 := n1_
       have BK176 := n2_
       have HI0 := n3_
       have HK := n4_
       have HB := n5_
       clear n0_ n1_ n2_ n3_ n4_ n5_
       clear hb ho32
       refine hK.out _ _ ⟨v185, v191, (by rw [ha.out]; exact putSel_upk 1 hb_ rfl rfl rfl), fun _ => bk_, bk_, fun _ => is_, ke_, bx_, fun _ => (by (with_reducible repeat (first | apply Kd.R_alloc | apply Kd.R_drewN | apply Kd.R_drew)); exact HO186.out), fun h0_ _ => absurd ((hoff 3 (by kernel_rfl)).symm.trans h0_) (by decide), z_HO192, fun h0_ => absurd ((hoff 6 (by kernel_rfl)).symm.trans h0_) (by decide), fun h0_ => absurd ((hoff 7 (by kernel_rfl)).symm.trans h0_) (by decide)⟩
      refine steps_cons ?_ ?_
      ·
       rintro b a w' ⟨v185, v191, ha, Q_BK169, Q_BK176, Q_HI0, Q_HK, Q_HB, Q_HO186, Q_HI0_e3, Q_HO192, Q_HI0_e6, Q_BK169_e7⟩ hb_ hon hoff
       refine ⟨_, rfl, fun K hK => ?_⟩
       have e25 : a.tmps[25]? = some (.pointer (some ⟨g, 0, none⟩)) := by rw [ha]; exact (putSel_off rfl).trans rfl
       have e26 : a.tmps[26]? = some (v185) := by rw [ha]; exact putSel_on (e := (2, 26, v185)) 1 rfl rfl (hon 2 (by kernel_rfl)) rfl
       replace ha := Aside0.mk ha
       have BK169 := Aside0.mk (Q_BK169 (hoff 7 (by kernel_rfl)))
       have BK176 := Aside0.mk Q_BK176
       have HI0 := Aside0.mk (Q_HI0 hb_)
       have HK := Aside0.mk Q_HK
       have HB := Aside0.mk Q_HB
       have HO186 := Aside0.mk (Q_HO186 (hon 2 (by kernel_rfl)))
       obtain ⟨Ao34, co34, eo34⟩ := Kd.R_slice HO186.out
       (first | subst eo34 | (injection eo34 with f1_ f2_ f3_; have f4_ := f1_.symm; have f5_ := f3_.symm; clear f1_ f2_ f3_; subst f4_; subst f5_))
       refine goes_ Tryz.func41 (by kernel_rfl) rfl #[.pointer (some ⟨g, 0, none⟩), .slice Ao34 y184.length co34] (by rfl) rfl rfl (by first | (simp only [List.map_toArray, List.map_cons, List.map_nil, Act.eval, Array.getD_eq_getD_getElem?, Option.getD_some, e25, e26]; done) | (simp only [List.map_toArray, List.map_cons, List.map_nil, Act.eval, Array.getD_eq_getD_getElem?, Option.getD_some, e25, e26]; rfl)) ?_
       with_reducible refine (spec_l1Cur_among.calls g s0_0 t182 t183 _ _ y184 t187 t188 t189 w0 _ ?side1 ?side2 ?side3 ?side4 ?side5 A27.out).mono ?_
       (case side1 => exact is_)
       (case side2 => exact bx_)
       (case side3 => repeat (first | exact (Kd.R_reads' HO186.out).2.2 | (with_reducible refine Kd.C_alloc ?_ _) | (with_reducible refine Kd.C_drewN ?_ _) | (with_reducible refine Kd.C_drew ?_)))
       (case side4 => exact (Kd.R_reads' HO186.out).2.1)
       (case side5 => exact far_slice (IsS55.own_ne HI0.out HO186.out (by decide)))
       rintro e w35 ⟨rfl, hi, hb, hk⟩
       refine ⟨_, rfl, ?_⟩
       have n0_ := Aside0.mk (kb_ BK169.out hk NB169_0.out)
       have n1_ := Aside0.mk (kb_ BK176.out hk NB176_0.out)
       have n2_ := Aside0.mk (Kd.R_mono (Kd.R_keep (IsS55.apart (show IsS55 w0 _ g s0_0 t182 t183 from is_) (by (with_reducible repeat (first | apply Kd.R_alloc | apply Kd.R_drewN | apply Kd.R_drew)); exact HO186.out) (by decide)) hk (fun _ h => h.2)) (fun _ h => h.1))
       have n3_ := Aside0.mk (KeepBut.trans (ke_ (w := w)) hk (.inl rfl))
       have n4_ := Aside0.mk (hb)
       have n5_ := Aside0.mk (hi)
       have z_HO192 := fun (h0_ : b 5 = true) => (show Kd.R (Kd.int .i64) 3 w35 w.heap.size (fun _ => True) v191 y190 from by first | exact (Kd.R_mono (Kd.R_keep (IsS55.apart (show IsS55 w0 _ g s0_0 t182 t183 from is_) (by (with_reducible repeat (first | apply Kd.R_alloc | apply Kd.R_drewN | apply Kd.R_drew)); exact (Q_HO192 h0_)) (by decide)) hk (fun _ h => h.2)) (fun _ h => h.1)) | exact Kd.R_mono (Kd.R_mono (Kd.R_keep (IsS55.apart (show IsS55 w0 _ g s0_0 t182 t183 from is_) (by (with_reducible repeat (first | apply Kd.R_alloc | apply Kd.R_drewN | apply Kd.R_drew)); exact (Q_HO192 h0_)) (by decide)) hk (fun _ h => h.2)) (fun _ h => h.1)) (fun _ h_ => by first | trivial | exact h_ | exact h_.1))
       clear BK169
       clear BK176
       clear HO186
       clear HK
       clear HB
       clear HI0
       have BK169 := n0_
       have BK176 := n1_
       have HO186 := n2_
       have HK := n3_
       have HB := n4_
       have HI0 := n5_
       clear n0_ n1_ n2_ n3_ n4_ n5_
       (try clear hb)
       (try clear hb2)
       (try clear hk)
       (try clear hi)
       refine hK.out _ _ ⟨.slice Ao34 y184.length co34, v191, (by rw [ha.out]; exact putSel_upk 2 hb_ rfl rfl rfl), fun _ => bk_, bk_, fun h0_ => absurd ((up_self b 3).symm.trans h0_) (by decide), ke_, bx_, fun _ => (by (with_reducible repeat (first | apply Kd.R_alloc | apply Kd.R_drewN | apply Kd.R_drew)); exact HO186.out), fun _ _ => is_, z_HO192, fun h0_ => absurd ((hoff 6 (by kernel_rfl)).symm.trans h0_) (by decide), fun h0_ => absurd ((hoff 7 (by kernel_rfl)).symm.trans h0_) (by decide)⟩
      refine steps_cons ?_ ?_
      ·
       rintro b a w' ⟨v185, v191, ha, Q_BK169, Q_BK176, Q_HI0, Q_HK, Q_HB, Q_HO186, Q_HI0_e3, Q_HO192, Q_HI0_e6, Q_BK169_e7⟩ hb_ hon hoff
       refine ⟨_, rfl, fun K hK => ?_⟩
       replace ha := Aside0.mk ha
       have BK169 := Aside0.mk (Q_BK169 (hoff 7 (by kernel_rfl)))
       have BK176 := Aside0.mk Q_BK176
       have HK := Aside0.mk Q_HK
       have HB := Aside0.mk Q_HB
       refine Kd.R_lit_step (Kd.int .i64) _ 3 ?hg (N := 29) ?hd (xs := ([0, 1, 100, 101] : List Int)) (inner := [.int .i64 0, .int .i64 1, .int .i64 100, .int .i64 101]) (ok := fun _ => True) (okp := fun _ => True) ?hr ?hp (fun _ hk => hk) trivial (Below.refl _ _) (Nat.le_refl _) (by simp) ?_; (case hd => rfl); (case hg => rfl); (case hr => first | (go_simp; done) | (go_simp; rfl)); (case hp => exact (Reps.one (show Kd.M (Kd.int .i64) _ _ _ 0 [.int .i64 0] from rfl) (Reps.one (show Kd.M (Kd.int .i64) _ _ _ 1 [.int .i64 1] from rfl) (Reps.one (show Kd.M (Kd.int .i64) _ _ _ 100 [.int .i64 100] from rfl) (Reps.one (show Kd.M (Kd.int .i64) _ _ _ 101 [.int .i64 101] from rfl) (Reps.none _ _))))))
       intro v191 w31 ho32 hb hg_ hnew_
       clear hg_ hnew_
       (first | rw [← Ny190.out] at ho32 | (simp only [Int.reduceToNat] at ho32; rw [← Ny190.out] at ho32))
       have n0_ := Aside0.mk (Kd.R_lower ho32 (keep_size (w := w) (g := g) (row := none) ke_))
       have n1_ := Aside0.mk (bb_ BK169.out hb)
       have n2_ := Aside0.mk (bb_ BK176.out hb)
       have n4_ := Aside0.mk (KeepBut.trans (ke_ (w := w)) (KeepBut.of_below hb g none) (.inl rfl))
       have n5_ := Aside0.mk (below_step bw_ hb)
       have z_HI0 := fun (h0_ : b 3 = false) => (show IsS55 w0 w31 g s0_0 t182 t183 from by first | exact (IsS55.below (by repeat (first | (with_reducible first | exact (Q_HI0 h0_) | apply IsS55.alloc | apply IsS55.drewN | apply IsS55.drew | apply IsS55.set_1 | apply IsS55.set_2 | refine IsS55.far ?_ NB0_169.out _ | refine IsS55.far ?_ NB0_176.out _) | exact (Q_HI0 h0_))) hb))
       have z_HO186 := fun (h0_ : b 2 = true) => (show Kd.R (Kd.int .i64) 3 w31 w.heap.size (fun _ => True) v185 y184 from by first | exact (Kd.R_elder' (by (with_reducible repeat (first | apply Kd.R_alloc | apply Kd.R_drewN | apply Kd.R_drew)); exact (Q_HO186 h0_)) (Kd.R_base ho32) hb) | exact Kd.R_mono (Kd.R_elder' (by (with_reducible repeat (first | apply Kd.R_alloc | apply Kd.R_drewN | apply Kd.R_drew)); exact (Q_HO186 h0_)) (Kd.R_base ho32) hb) (fun _ h_ => by first | trivial | exact h_ | exact h_.1))
       have z_HI0_e3 := fun (h0_ : b 3 = true) (h1_ : b 6 = false) => (show IsS55 w0 w31 g s0_0 t188 t189 from by first | exact (IsS55.below (by repeat (first | (with_reducible first | exact (Q_HI0_e3 h0_ h1_) | apply IsS55.alloc | apply IsS55.drewN | apply IsS55.drew | apply IsS55.set_1 | apply IsS55.set_2 | refine IsS55.far ?_ NB0_169.out _ | refine IsS55.far ?_ NB0_176.out _) | exact (Q_HI0_e3 h0_ h1_))) hb))
       clear BK169
       clear BK176
       clear HK
       clear HB
       have HO192 := n0_
       have BK169 := n1_
       have BK176 := n2_
       have HK := n4_
       have HB := n5_
       clear n0_ n1_ n2_ n4_ n5_
       clear hb ho32
       refine hK.out _ _ ⟨v185, v191, (by rw [ha.out]; exact putSel_upk 3 hb_ rfl rfl rfl), fun _ => bk_, bk_, z_HI0, ke_, bw_, z_HO186, z_HI0_e3, fun _ => (by (with_reducible repeat (first | apply Kd.R_alloc | apply Kd.R_drewN | apply Kd.R_drew)); exact HO192.out), fun h0_ => absurd ((hoff 6 (by kernel_rfl)).symm.trans h0_) (by decide), fun h0_ => absurd ((hoff 7 (by kernel_rfl)).symm.trans h0_) (by decide)⟩
      refine steps_cons ?_ ?_
      ·
       rintro b a w' ⟨v185, v191, ha, Q_BK169, Q_BK176, Q_HI0, Q_HK, Q_HB, Q_HO186, Q_HI0_e3, Q_HO192, Q_HI0_e6, Q_BK169_e7⟩ hb_ hon hoff
       refine ⟨_, rfl, fun K hK => ?_⟩
       have e28 : a.tmps[28]? = some (.pointer (some ⟨g, 0, none⟩)) := by rw [ha]; exact (putSel_off rfl).trans rfl
       have e29 : a.tmps[29]? = some (v191) := by rw [ha]; exact putSel_on (e := (5, 29, v191)) 3 rfl rfl (hon 5 (by kernel_rfl)) rfl
       replace ha := Aside0.mk ha
       have BK169 := Aside0.mk (Q_BK169 (hoff 7 (by kernel_rfl)))
       have BK176 := Aside0.mk Q_BK176
       have HK := Aside0.mk Q_HK
       have HB := Aside0.mk Q_HB
       have HO186 := Aside0.mk (Q_HO186 (hon 2 (by kernel_rfl)))
       have HI0 := Aside0.mk (Q_HI0_e3 (hon 3 (by kernel_rfl)) hb_)
       have HO192 := Aside0.mk (Q_HO192 (hon 5 (by kernel_rfl)))
       obtain ⟨Ao38, co38, eo38⟩ := Kd.R_slice HO192.out
       (first | subst eo38 | (injection eo38 with f1_ f2_ f3_; have f4_ := f1_.symm; have f5_ := f3_.symm; clear f1_ f2_ f3_; subst f4_; subst f5_))
       refine goes_ Tryz.func41 (by kernel_rfl) rfl #[.pointer (some ⟨g, 0, none⟩), .slice Ao38 y190.length co38] (by rfl) rfl rfl (by first | (simp only [List.map_toArray, List.map_cons, List.map_nil, Act.eval, Array.getD_eq_getD_getElem?, Option.getD_some, e28, e29]; done) | (simp only [List.map_toArray, List.map_cons, List.map_nil, Act.eval, Array.getD_eq_getD_getElem?, Option.getD_some, e28, e29]; rfl)) ?_
       with_reducible refine (spec_l1Cur_among.calls g s0_0 t188 t189 _ _ y190 t193 t194 t195 w0 _ ?side1 ?side2 ?side3 ?side4 ?side5 A28.out).mono ?_
       (case side1 => exact is_)
       (case side2 => exact bx_)
       (case side3 => repeat (first | exact (Kd.R_reads' HO192.out).2.2 | (with_reducible refine Kd.C_alloc ?_ _) | (with_reducible refine Kd.C_drewN ?_ _) | (with_reducible refine Kd.C_drew ?_)))
       (case side4 => exact (Kd.R_reads' HO192.out).2.1)
       (case side5 => exact far_slice (IsS55.own_ne HI0.out HO192.out (by decide)))
       rintro e w39 ⟨rfl, hi, hb, hk⟩
       refine ⟨_, rfl, ?_⟩
       have n0_ := Aside0.mk (kb_ BK169.out hk NB169_0.out)
       have n1_ := Aside0.mk (kb_ BK176.out hk NB176_0.out)
       have n2_ := Aside0.mk (Kd.R_mono (Kd.R_keep (IsS55.apart (show IsS55 w0 _ g s0_0 t188 t189 from is_) (by (with_reducible repeat (first | apply Kd.R_alloc | apply Kd.R_drewN | apply Kd.R_drew)); exact HO186.out) (by decide)) hk (fun _ h => h.2)) (fun _ h => h.1))
       have n3_ := Aside0.mk (Kd.R_mono (Kd.R_keep (IsS55.apart (show IsS55 w0 _ g s0_0 t188 t189 from is_) (by (with_reducible repeat (first | apply Kd.R_alloc | apply Kd.R_drewN | apply Kd.R_drew)); exact HO192.out) (by decide)) hk (fun _ h => h.2)) (fun _ h => h.1))
       have n4_ := Aside0.mk (KeepBut.trans (ke_ (w := w)) hk (.inl rfl))
       have n5_ := Aside0.mk (hb)
       have n6_ := Aside0.mk (hi)
       clear BK169
       clear BK176
       clear HO186
       clear HO192
       clear HK
       clear HB
       clear HI0
       have BK169 := n0_
       have BK176 := n1_
       have HO186 := n2_
       have HO192 := n3_
       have HK := n4_
       have HB := n5_
       have HI0 := n6_
       clear n0_ n1_ n2_ n3_ n4_ n5_ n6_
       (try clear hb)
       (try clear hb2)
       (try clear hk)
       (try clear hi)
       refine hK.out _ _ ⟨v185, .slice Ao38 y190.length co38, (by rw [ha.out]; exact putSel_upk 4 hb_ rfl rfl rfl), fun _ => bk_, bk_, fun h0_ => absurd ((hon 3 (by kernel_rfl)).symm.trans h0_) (by decide), ke_, bx_, fun _ => (by (with_reducible repeat (first | apply Kd.R_alloc | apply Kd.R_drewN | apply Kd.R_drew)); exact HO186.out), fun _ h1_ => absurd ((up_self b 6).symm.trans h1_) (by decide), fun _ => (by (with_reducible repeat (first | apply Kd.R_alloc | apply Kd.R_drewN | apply Kd.R_drew)); exact HO192.out), fun _ => is_, fun h0_ => absurd ((hoff 7 (by kernel_rfl)).symm.trans h0_) (by decide)⟩
      refine steps_cons ?_ ?_
      ·
       rintro b a w' ⟨v185, v191, ha, Q_BK169, Q_BK176, Q_HI0, Q_HK, Q_HB, Q_HO186, Q_HI0_e3, Q_HO192, Q_HI0_e6, Q_BK169_e7⟩ hb_ hon hoff
       refine ⟨_, rfl, fun K hK => ?_⟩
       have e2 : a.tmps[2]? = some (.pointer (some ⟨gb169, 0, none⟩)) := by rw [ha]; exact (putSel_off rfl).trans rfl
       have e24 : a.tmps[24]? = some (.agg #[.int .i64 t170, .int .i64 t171, .int .i64 t172, .int .i64 t173]) := by rw [ha]; exact putSel_on (e := (0, 24, .agg #[.int .i64 t170, .int .i64 t171, .int .i64 t172, .int .i64 t173])) 0 rfl rfl (hon 0 (by kernel_rfl)) rfl
       replace ha := Aside0.mk ha
       have BK169 := Aside0.mk (Q_BK169 hb_)
       have BK176 := Aside0.mk Q_BK176
       have HK := Aside0.mk Q_HK
       have HB := Aside0.mk Q_HB
       have HO186 := Aside0.mk (Q_HO186 (hon 2 (by kernel_rfl)))
       have HO192 := Aside0.mk (Q_HO192 (hon 5 (by kernel_rfl)))
       have HI0 := Aside0.mk (Q_HI0_e6 (hon 6 (by kernel_rfl)))
       have hs40 : w'.cell? ⟨gb169, 0, none⟩ = some (.int .i64 0) := (blk_cell BK169.out 0).trans rfl
       have hfs40 := blk_frozen BK169.out 0
       have hns40_1 := NB176_169.out
       have hms40_1 := NB169_176.out
       have hs41 : w'.cell? ⟨gb169, 1, none⟩ = some (.int .i64 0) := (blk_cell BK169.out 1).trans rfl
       have hfs41 := blk_frozen BK169.out 1
       have hns41_1 := NB176_169.out
       have hms41_1 := NB169_176.out
       have hs42 : w'.cell? ⟨gb169, 2, none⟩ = some (.int .i64 0) := (blk_cell BK169.out 2).trans rfl
       have hfs42 := blk_frozen BK169.out 2
       have hns42_1 := NB176_169.out
       have hms42_1 := NB169_176.out
       have hs43 : w'.cell? ⟨gb169, 3, none⟩ = some (.int .i64 0) := (blk_cell BK169.out 3).trans rfl
       have hfs43 := blk_frozen BK169.out 3
       have hns43_1 := NB176_169.out
       have hms43_1 := NB169_176.out
       refine skip_ (w1 := ?_) (by rfl) rfl ?_ ?_
       rotate_left
       ·
        go_simp
        rfl
       refine hK.out _ _ ⟨v185, v191, (by rw [ha.out]; exact putSel_none (v := undef) rfl), fun h0_ => absurd ((up_self b 7).symm.trans h0_) (by decide), bf_, fun h0_ => absurd ((hon 3 (by kernel_rfl)).symm.trans h0_) (by decide), ke_, bx_, fun _ => (by (with_reducible repeat (first | apply Kd.R_alloc | apply Kd.R_drewN | apply Kd.R_drew)); exact Kd.R_mono (Kd.R_far (p := ⟨gb169, 3, none⟩) (Kd.R_far (p := ⟨gb169, 2, none⟩) (Kd.R_far (p := ⟨gb169, 1, none⟩) (Kd.R_far (p := ⟨gb169, 0, none⟩) (Kd.R_types HO186.out BK169.out (by decide)) (fun _ hk => hk.2) (.int .i64 t170)) (fun _ hk => hk.2) (.int .i64 t171)) (fun _ hk => hk.2) (.int .i64 t172)) (fun _ hk => hk.2) (.int .i64 t173)) (fun _ hk => hk.1)), fun _ h1_ => absurd ((hon 6 (by kernel_rfl)).symm.trans h1_) (by decide), fun _ => (by (with_reducible repeat (first | apply Kd.R_alloc | apply Kd.R_drewN | apply Kd.R_drew)); exact Kd.R_mono (Kd.R_far (p := ⟨gb169, 3, none⟩) (Kd.R_far (p := ⟨gb169, 2, none⟩) (Kd.R_far (p := ⟨gb169, 1, none⟩) (Kd.R_far (p := ⟨gb169, 0, none⟩) (Kd.R_types HO192.out BK169.out (by decide)) (fun _ hk => hk.2) (.int .i64 t170)) (fun _ hk => hk.2) (.int .i64 t171)) (fun _ hk => hk.2) (.int .i64 t172)) (fun _ hk => hk.2) (.int .i64 t173)) (fun _ hk => hk.1)), fun _ => is_, fun _ => (by (with_reducible repeat (first | refine blk_drewN ?_ _ | refine blk_drew ?_ | refine blk_alloc ?_ _)); refine blk_put (cs := #[.int .i64 t170, .int .i64 t171, .int .i64 t172, .int .i64 0]) ?_ 3 _ rfl; (with_reducible repeat (first | refine blk_drewN ?_ _ | refine blk_drew ?_ | refine blk_alloc ?_ _)); refine blk_put (cs := #[.int .i64 t170, .int .i64 t171, .int .i64 0, .int .i64 0]) ?_ 2 _ rfl; (with_reducible repeat (first | refine blk_drewN ?_ _ | refine blk_drew ?_ | refine blk_alloc ?_ _)); refine blk_put (cs := #[.int .i64 t170, .int .i64 0, .int .i64 0, .int .i64 0]) ?_ 1 _ rfl; (with_reducible repeat (first | refine blk_drewN ?_ _ | refine blk_drew ?_ | refine blk_alloc ?_ _)); refine blk_put (cs := #[.int .i64 0, .int .i64 0, .int .i64 0, .int .i64 0]) ?_ 0 _ rfl; (with_reducible repeat (first | refine blk_drewN ?_ _ | refine blk_drew ?_ | refine blk_alloc ?_ _)); exact BK169.out)⟩
      refine steps_cons ?_ ?_
      ·
       rintro b a w' ⟨v185, v191, ha, Q_BK169, Q_BK176, Q_HI0, Q_HK, Q_HB, Q_HO186, Q_HI0_e3, Q_HO192, Q_HI0_e6, Q_BK169_e7⟩ hb_ hon hoff
       refine ⟨_, rfl, fun K hK => ?_⟩
       have e27 : a.tmps[27]? = some (.int .i64 t187) := by rw [ha]; exact putSel_on (e := (3, 27, .int .i64 t187)) 2 rfl rfl (hon 3 (by kernel_rfl)) rfl
       replace ha := Aside0.mk ha
       have BK176 := Aside0.mk Q_BK176
       have HK := Aside0.mk Q_HK
       have HB := Aside0.mk Q_HB
       have HO186 := Aside0.mk (Q_HO186 (hon 2 (by kernel_rfl)))
       have HO192 := Aside0.mk (Q_HO192 (hon 5 (by kernel_rfl)))
       have HI0 := Aside0.mk (Q_HI0_e6 (hon 6 (by kernel_rfl)))
       have BK169 := Aside0.mk (Q_BK169_e7 (hon 7 (by kernel_rfl)))
       refine value_ (w1 := w') (v := .int .i64 t187) (by rfl) rfl ?_ ?_
       ·
        go_simp
        (try simp only [i64_w])
        try rfl
       refine hK.out _ _ ⟨v185, v191, (by rw [ha.out]; exact putSel_upk 5 hb_ rfl rfl rfl), fun h0_ => absurd ((hon 7 (by kernel_rfl)).symm.trans h0_) (by decide), Q_BK176, fun h0_ => absurd ((hon 3 (by kernel_rfl)).symm.trans h0_) (by decide), Q_HK, Q_HB, Q_HO186, fun _ h1_ => absurd ((hon 6 (by kernel_rfl)).symm.trans h1_) (by decide), Q_HO192, Q_HI0_e6, Q_BK169_e7⟩
      refine steps_cons ?_ ?_
      ·
       rintro b a w' ⟨v185, v191, ha, Q_BK169, Q_BK176, Q_HI0, Q_HK, Q_HB, Q_HO186, Q_HI0_e3, Q_HO192, Q_HI0_e6, Q_BK169_e7⟩ hb_ hon hoff
       refine ⟨_, rfl, fun K hK => ?_⟩
       have e30 : a.tmps[30]? = some (.int .i64 t193) := by rw [ha]; exact putSel_on (e := (6, 30, .int .i64 t193)) 4 rfl rfl (hon 6 (by kernel_rfl)) rfl
       replace ha := Aside0.mk ha
       have BK176 := Aside0.mk Q_BK176
       have HK := Aside0.mk Q_HK
       have HB := Aside0.mk Q_HB
       have HO186 := Aside0.mk (Q_HO186 (hon 2 (by kernel_rfl)))
       have HO192 := Aside0.mk (Q_HO192 (hon 5 (by kernel_rfl)))
       have HI0 := Aside0.mk (Q_HI0_e6 (hon 6 (by kernel_rfl)))
       have BK169 := Aside0.mk (Q_BK169_e7 (hon 7 (by kernel_rfl)))
       refine value_ (w1 := w') (v := .int .i64 t193) (by rfl) rfl ?_ ?_
       ·
        go_simp
        (try simp only [i64_w])
        try rfl
       refine hK.out _ _ ⟨v185, v191, (by rw [ha.out]; exact putSel_upk 6 hb_ rfl rfl rfl), fun h0_ => absurd ((hon 7 (by kernel_rfl)).symm.trans h0_) (by decide), Q_BK176, fun h0_ => absurd ((hon 3 (by kernel_rfl)).symm.trans h0_) (by decide), Q_HK, Q_HB, Q_HO186, fun _ h1_ => absurd ((hon 6 (by kernel_rfl)).symm.trans h1_) (by decide), Q_HO192, Q_HI0_e6, Q_BK169_e7⟩
      exact steps_nil
     rintro b a w43 hall ⟨v185, v191, ha, Q_BK169, Q_BK176, Q_HI0, Q_HK, Q_HB, Q_HO186, Q_HI0_e3, Q_HO192, Q_HI0_e6, Q_BK169_e7⟩
     clear BK169 BK176 HB HI0 HK
     have hb0_ := hall 0 (by kernel_rfl)
     have hb2_ := hall 2 (by kernel_rfl)
     have hb3_ := hall 3 (by kernel_rfl)
     have hb5_ := hall 5 (by kernel_rfl)
     have hb6_ := hall 6 (by kernel_rfl)
     have hb7_ := hall 7 (by kernel_rfl)
     have hb8_ := hall 8 (by kernel_rfl)
     have hb9_ := hall 9 (by kernel_rfl)
     subst ha
     simp only [putSel, hb0_, hb2_, hb3_, hb5_, hb6_, hb7_, hb8_, hb9_, if_true, Act.put, List.setIfInBounds_toArray, List.set_cons_zero, List.set_cons_succ]
     clear Q_BK169
     have BK176 := Aside0.mk Q_BK176
     clear Q_BK176
     clear Q_HI0
     have HK := Aside0.mk Q_HK
     clear Q_HK
     have HB := Aside0.mk Q_HB
     clear Q_HB
     have HO186 := Aside0.mk (Q_HO186 hb2_)
     clear Q_HO186
     clear Q_HI0_e3
     have HO192 := Aside0.mk (Q_HO192 hb5_)
     clear Q_HO192
     have HI0 := Aside0.mk (Q_HI0_e6 hb6_)
     clear Q_HI0_e6
     have BK169 := Aside0.mk (Q_BK169_e7 hb7_)
     clear Q_BK169_e7
     clear hall hb0_ hb2_ hb3_ hb5_ hb6_ hb7_ hb8_ hb9_
     try go_wp2
     refine bodyPost_ret (results_ctt rfl _ _ gb169 25 #[.int .i64 t170, .int .i64 t171, .int .i64 t172, .int .i64 t173] (0, 0) _ rfl bk_ Tryz.underlying25 rfl (by kernel_rfl)) rfl ?_
     exact ⟨rt_, is_, bx_, ke_⟩
    ·
     replace c26 := Bool.eq_false_iff.mpr c26
     subst c26
     rw [if_neg (show ¬ (false = true) by decide)] at H
     replace H := Option.bind_eq_some_iff.mp H
     obtain ⟨⟨t196, t197, t198⟩, A440, H⟩ := H
     (try dsimp only at H)
     have A44 := Aside0.mk A440
     clear A440
     replace H := Option.bind_eq_some_iff.mp H
     obtain ⟨⟨t199, t200, t201⟩, A450, H⟩ := H
     (try dsimp only at H)
     have A45 := Aside0.mk A450
     clear A450
     simp only [Option.some.injEq, Prod.mk.injEq] at H
     obtain ⟨rfl, rfl, rfl, rfl, rfl, rfl, rfl, rfl⟩ := H
     try go_wp2_with (first | ((with_reducible refine gate_callee (f := 46) rfl ?_); refine gl_ (some 23) Tryz.func46 #[.pointer (some ⟨g, 0, none⟩), .int .i64 12] ?_; (with_reducible refine (spec_l1Cur_one.calls g s0_0 x1001_2 x1002_2 12 false t182 t183 w0 _ ?side1 ?side2 A25.out).mono ?_); (case side1 => exact is_); (case side2 => exact bx_); rintro e w46 ⟨rfl, hi, hb, hk⟩; refine ⟨_, rfl, ?_⟩; have n0_ := Aside0.mk (kb_ BK169.out hk NB169_0.out); have n1_ := Aside0.mk (kb_ BK176.out hk NB176_0.out); have n2_ := Aside0.mk (KeepBut.trans (ke_ (w := w)) hk (.inl rfl)); have n3_ := Aside0.mk (hb); have n4_ := Aside0.mk (hi); clear BK169; clear BK176; clear HK; clear HB; clear HI0; have BK169 := n0_; have BK176 := n1_; have HK := n2_; have HB := n3_; have HI0 := n4_; clear n0_ n1_ n2_ n3_ n4_; (try clear hb); (try clear hb2); (try clear hk); (try clear hi)))
     have n0_ := Aside0.mk (blk_drew BK169.out)
     have n1_ := Aside0.mk (blk_drew BK176.out)
     have n2_ := Aside0.mk (IsS55.drew HI0.out)
     have n3_ := Aside0.mk (keep_drew HK.out)
     have n4_ := Aside0.mk (below_drew1 HB.out)
     clear BK169
     clear BK176
     clear HI0
     clear HK
     clear HB
     have BK169 := n0_
     have BK176 := n1_
     have HI0 := n2_
     have HK := n3_
     have HB := n4_
     clear n0_ n1_ n2_ n3_ n4_
     refine start_ (n := 9) (S := fun w' => w'.cell? ⟨gb176, 0, none⟩ = some (.int .i64 t170) ∧ w'.cell? ⟨gb176, 1, none⟩ = some (.int .i64 t171) ∧ w'.cell? ⟨gb176, 2, none⟩ = some (.int .i64 t172) ∧ w'.cell? ⟨gb176, 3, none⟩ = some (.int .i64 t173)) (ds := []) #[false, false, false, false, false, false, false, false, false] (by kernel_rfl) rfl rfl ⟨(blk_cell BK176.out 0).trans rfl, (blk_cell BK176.out 1).trans rfl, (blk_cell BK176.out 2).trans rfl, (blk_cell BK176.out 3).trans rfl⟩ (fun hHeld => ?_); refine with_tabW spec_l1Cur_chased.tab6 spec_l1Cur_chased.bits6 (fun HT_ HW_ => ?_)
     generalize w46.drew = w47 at BK169 BK176 HI0 HK HB hHeld ⊢
     refine pu_ 1 32 9 2 ?_
     refine pu_ 3 34 9 10 ?_
     refine tk_ 0 31 9 11 hHeld ?_
     refine one_ (i := 2) (N := some 33) (pm_ 9 15) rfl rfl (one_of HT_.out (by kernel_rfl)) (by decide) (fun K hK => ?_)
     refine goes_ Tryz.func47 (by kernel_rfl) rfl #[.pointer (some ⟨g, 0, none⟩), .int .i64 20] (by rfl) rfl rfl (by (try simp only [List.map_toArray, List.map_cons, List.map_nil]); first | done | rfl | (simp only [List.length_drop, List.length_take]; rfl)) ?_
     with_reducible refine (spec_l1Cur_pick.calls g s0_0 t182 t183 20 t196 t197 t198 w0 _ ?side1 ?side2 A44.out).mono ?_
     (case side1 => exact is_)
     (case side2 => exact bx_)
     rintro e w48 ⟨rfl, hi, hb, hk⟩
     refine ⟨_, rfl, ?_⟩
     have n0_ := Aside0.mk (kb_ BK169.out hk NB169_0.out)
     have n1_ := Aside0.mk (kb_ BK176.out hk NB176_0.out)
     have n2_ := Aside0.mk (KeepBut.trans (ke_ (w := w)) hk (.inl rfl))
     have n3_ := Aside0.mk (hb)
     have n4_ := Aside0.mk (hi)
     clear BK169
     clear BK176
     clear HK
     clear HB
     clear HI0
     have BK169 := n0_
     have BK176 := n1_
     have HK := n2_
     have HB := n3_
     have HI0 := n4_
     clear n0_ n1_ n2_ n3_ n4_
     (try clear hb)
     (try clear hb2)
     (try clear hk)
     (try clear hi)
     refine hK.out _ _ ⟨(blk_cell BK176.out 0).trans rfl, (blk_cell BK176.out 1).trans rfl, (blk_cell BK176.out 2).trans rfl, (blk_cell BK176.out 3).trans rfl⟩ (fun hHeld => ?_)
     clear hK K
     refine norm_ (a' := ?_) ?_ ?_
     rotate_left
     ·
      show Act.put _ (some 33) _ = _
      simp only [Act.put, List.setIfInBounds_toArray, List.set_cons_zero, List.set_cons_succ, i64_w, i32_w]
      rfl
     refine one_ (i := 4) (N := some 35) (pm_ 9 31) rfl rfl (one_of HT_.out (by kernel_rfl)) (by decide) (fun K hK => ?_)
     refine goes_ Tryz.func47 (by kernel_rfl) rfl #[.pointer (some ⟨g, 0, none⟩), .int .i64 6] (by rfl) rfl rfl (by (try simp only [List.map_toArray, List.map_cons, List.map_nil]); first | done | rfl | (simp only [List.length_drop, List.length_take]; rfl)) ?_
     with_reducible refine (spec_l1Cur_pick.calls g s0_0 t197 t198 6 t199 t200 t201 w0 _ ?side1 ?side2 A45.out).mono ?_
     (case side1 => exact is_)
     (case side2 => exact bx_)
     rintro e w49 ⟨rfl, hi, hb, hk⟩
     refine ⟨_, rfl, ?_⟩
     have n0_ := Aside0.mk (kb_ BK169.out hk NB169_0.out)
     have n1_ := Aside0.mk (kb_ BK176.out hk NB176_0.out)
     have n2_ := Aside0.mk (KeepBut.trans (ke_ (w := w)) hk (.inl rfl))
     have n3_ := Aside0.mk (hb)
     have n4_ := Aside0.mk (hi)
     clear BK169
     clear BK176
     clear HK
     clear HB
     clear HI0
     have BK169 := n0_
     have BK176 := n1_
     have HK := n2_
     have HB := n3_
     have HI0 := n4_
     clear n0_ n1_ n2_ n3_ n4_
     (try clear hb)
     (try clear hb2)
     (try clear hk)
     (try clear hi)
     refine hK.out _ _ ⟨(blk_cell BK176.out 0).trans rfl, (blk_cell BK176.out 1).trans rfl, (blk_cell BK176.out 2).trans rfl, (blk_cell BK176.out 3).trans rfl⟩ (fun hHeld => ?_)
     clear hK K
     refine norm_ (a' := ?_) ?_ ?_
     rotate_left
     ·
      show Act.put _ (some 35) _ = _
      simp only [Act.put, List.setIfInBounds_toArray, List.set_cons_zero, List.set_cons_succ, i64_w, i32_w]
      rfl
     refine pu_ 5 36 9 63 ?_
     refine one_ (i := 6) (N := none) (pm_ 9 127) rfl rfl (one_of HT_.out (by kernel_rfl)) (by decide) (fun K hK => ?_)
     have hs50 : w49.cell? ⟨gb169, 0, none⟩ = some (.int .i64 0) := (blk_cell BK169.out 0).trans rfl
     have hfs50 := blk_frozen BK169.out 0
     have hns50_1 := NB176_169.out
     have hms50_1 := NB169_176.out
     have hs51 : w49.cell? ⟨gb169, 1, none⟩ = some (.int .i64 0) := (blk_cell BK169.out 1).trans rfl
     have hfs51 := blk_frozen BK169.out 1
     have hns51_1 := NB176_169.out
     have hms51_1 := NB169_176.out
     have hs52 : w49.cell? ⟨gb169, 2, none⟩ = some (.int .i64 0) := (blk_cell BK169.out 2).trans rfl
     have hfs52 := blk_frozen BK169.out 2
     have hns52_1 := NB176_169.out
     have hms52_1 := NB169_176.out
     have hs53 : w49.cell? ⟨gb169, 3, none⟩ = some (.int .i64 0) := (blk_cell BK169.out 3).trans rfl
     have hfs53 := blk_frozen BK169.out 3
     have hns53_1 := NB176_169.out
     have hms53_1 := NB169_176.out
     refine skip_ (w1 := ?_) (by rfl) rfl ?_ ?_
     rotate_left
     ·
      go_simp
      rfl
     refine hK.out _ _ ⟨((cell_far (p := ⟨gb169, _, none⟩) NB176_169.out _).trans (((cell_far (p := ⟨gb169, _, none⟩) NB176_169.out _).trans (((cell_far (p := ⟨gb169, _, none⟩) NB176_169.out _).trans (((cell_far (p := ⟨gb169, _, none⟩) NB176_169.out _).trans (hHeld.1)))))))), ((cell_far (p := ⟨gb169, _, none⟩) NB176_169.out _).trans (((cell_far (p := ⟨gb169, _, none⟩) NB176_169.out _).trans (((cell_far (p := ⟨gb169, _, none⟩) NB176_169.out _).trans (((cell_far (p := ⟨gb169, _, none⟩) NB176_169.out _).trans (hHeld.2.1)))))))), ((cell_far (p := ⟨gb169, _, none⟩) NB176_169.out _).trans (((cell_far (p := ⟨gb169, _, none⟩) NB176_169.out _).trans (((cell_far (p := ⟨gb169, _, none⟩) NB176_169.out _).trans (((cell_far (p := ⟨gb169, _, none⟩) NB176_169.out _).trans (hHeld.2.2.1)))))))), ((cell_far (p := ⟨gb169, _, none⟩) NB176_169.out _).trans (((cell_far (p := ⟨gb169, _, none⟩) NB176_169.out _).trans (((cell_far (p := ⟨gb169, _, none⟩) NB176_169.out _).trans (((cell_far (p := ⟨gb169, _, none⟩) NB176_169.out _).trans (hHeld.2.2.2))))))))⟩ (fun hHeld => ?_)
     clear hK K
     refine pu_ 7 3 9 255 ?_
     refine pu_ 8 4 9 511 ?_
     refine done_ (done_of HT_.out (by kernel_rfl)) ?_
     try go_wp2
     refine bodyPost_ret (results_ctt rfl _ _ gb169 25 #[.int .i64 t170, .int .i64 t171, .int .i64 t172, .int .i64 t173] (0, 0) _ rfl (by (with_reducible repeat (first | refine blk_drewN ?_ _ | refine blk_drew ?_ | refine blk_alloc ?_ _)); refine blk_put (cs := #[.int .i64 t170, .int .i64 t171, .int .i64 t172, .int .i64 0]) ?_ 3 _ rfl; (with_reducible repeat (first | refine blk_drewN ?_ _ | refine blk_drew ?_ | refine blk_alloc ?_ _)); refine blk_put (cs := #[.int .i64 t170, .int .i64 t171, .int .i64 0, .int .i64 0]) ?_ 2 _ rfl; (with_reducible repeat (first | refine blk_drewN ?_ _ | refine blk_drew ?_ | refine blk_alloc ?_ _)); refine blk_put (cs := #[.int .i64 t170, .int .i64 0, .int .i64 0, .int .i64 0]) ?_ 1 _ rfl; (with_reducible repeat (first | refine blk_drewN ?_ _ | refine blk_drew ?_ | refine blk_alloc ?_ _)); refine blk_put (cs := #[.int .i64 0, .int .i64 0, .int .i64 0, .int .i64 0]) ?_ 0 _ rfl; (with_reducible repeat (first | refine blk_drewN ?_ _ | refine blk_drew ?_ | refine blk_alloc ?_ _)); exact BK169.out) Tryz.underlying25 rfl (by kernel_rfl)) rfl ?_
     exact ⟨rt_, is_, bx_, ke_⟩

/-! ### spec_DrawDogPlace: function 5 -/
def spec_DrawDogPlace.f (k : Nat) (l0 : List Int) : Option (Int × Int × Int × Int × Int × Int) := (spec_l1Cur_chased.f k l0 0 0).bind fun bt204 => (some (bt204.1, bt204.2.1, bt204.2.2.1, bt204.2.2.2.1, bt204.2.2.2.2.1, bt204.2.2.2.2.2.1))

set_option maxHeartbeats 8000000 in
set_option maxRecDepth 100000 in
theorem spec_DrawDogPlace.calls (k : Nat) (A0 : Option Addr) (c0 : Nat) (l0 : List Int) (r1 : Int) (r2 : Int) (r3 : Int) (r4 : Int) (r5 : Int) (r6 : Int) (w : World) (hr0 : Kd.C (Kd.int .u8) w A0 l0.length l0) (hc0 : l0.length ≤ c0) (h : spec_DrawDogPlace.f k l0 = some (r1, r2, r3, r4, r5, r6)) :
  Calls Tryz.prog 5 #[.slice A0 l0.length c0] w fun e w' => e = .returned (.tuple #[.agg #[.int .i64 r1, .int .i64 r2, .int .i64 r3, .int .i64 r4], .int .i64 r5, .int .i64 r6]) ∧ Below w.heap.size w w' := by
 have hu25 := Tryz.underlying25
 have hu55 := Tryz.underlying55
 have HR0 := Aside0.mk hr0
 have HC0 := Aside0.mk hc0
 clear hr0 hc0
 have HB := Aside0.mk (Below.refl w.heap.size w)
 have H := h
 unfold spec_DrawDogPlace.f at H
 clear h
 replace H := Option.bind_eq_some_iff.mp H
 obtain ⟨⟨t204, t205, t206, t207, t208, t209, t210, t211⟩, A20, H⟩ := H
 (try dsimp only at H)
 have A2 := Aside0.mk A20
 clear A20
 simp only [Option.some.injEq, Prod.mk.injEq] at H
 obtain ⟨rfl, rfl, rfl, rfl, rfl, rfl⟩ := H
 go_enter Tryz.func5, Tryz.ntmps5
 go_wp2_with (first | ((with_reducible refine gate_dst (N := 2) rfl ?_); refine be_ 2 #[.int .i64 0, .int .i64 0, .int .i64 0, .int .i64 0] 25 ?_; intro gb202 hg w3 hbox hb; have n0_ := Aside0.mk (below_step bw_ hb); have n1_ := Aside0.mk (hbox); have n2_ := Aside0.mk (bz_ (w := w) hg); have n3_ := Aside0.mk (bz_ (w := w) hg); clear HB; have HB := n0_; have BK202 := n1_; have GW202 := n2_; have GE202 := n3_; clear n0_ n1_ n2_ n3_; clear hb hbox hg) | ((with_reducible refine gate_dst (N := 8) rfl ?_); refine be_ 8 #[.slice A0 l0.length c0, .int .i64 0, .int .u64 0] 55 ?_; intro gb203 hg w4 hbox hb; have n0_ := Aside0.mk (bb_ BK202.out hb); have n1_ := Aside0.mk (below_step bw_ hb); have n2_ := Aside0.mk ((⟨_, _, hbox, (by rw [hg]; exact (below_size bw_) : w.heap.size ≤ gb203), HR0.out⟩ : IsS55 w _ gb203 l0 0 0)); have n3_ := Aside0.mk (bz_ (w := w) hg); have n4_ := Aside0.mk (bz_ (w := w) hg); have n5_ := Aside0.mk (nl_ BK202.out hg); have n6_ := Aside0.mk (ng_ BK202.out hg); clear BK202; clear HB; have BK202 := n0_; have HB := n1_; have HI203 := n2_; have GW203 := n3_; have GE203 := n4_; have NB202_203 := n5_; have NB203_202 := n6_; clear n0_ n1_ n2_ n3_ n4_ n5_ n6_; clear hb hbox hg) | ((with_reducible refine gate_callee (f := 27) rfl ?_); refine gl_ (some 10) Tryz.func27 #[.pointer (some ⟨gb203, 0, none⟩)] ?_; (with_reducible refine (spec_l1Cur_chased.calls k gb203 l0 0 0 t204 t205 t206 t207 t208 t209 t210 t211 w _ ?side1 ?side2 A2.out).mono ?_); (case side1 => repeat (first | (with_reducible first | exact HI203.out | apply IsS55.alloc | apply IsS55.drewN | apply IsS55.drew | apply IsS55.set_1 | apply IsS55.set_2 | refine IsS55.far ?_ NB203_202.out _) | exact HI203.out)); (case side2 => repeat (first | (with_reducible first | exact HB.out | apply below_alloc | apply pw_below_drewN | apply below_drew1 | refine below_set ?_ (IsS55.ge HI203.out) | refine below_set ?_ GE202.out) | exact HB.out)); rintro e w5 ⟨rfl, hi, hb, hk⟩; refine ⟨_, rfl, ?_⟩; have n0_ := Aside0.mk (kb_ BK202.out hk NB202_203.out); have n1_ := Aside0.mk (hb); have n2_ := Aside0.mk (hi); clear BK202; clear HB; clear HI203; have BK202 := n0_; have HB := n1_; have HI203 := n2_; clear n0_ n1_ n2_; (try clear hb); (try clear hb2); (try clear hk); (try clear hi); have hnb6 := NB202_203.out; have hnc6 := NB203_202.out; obtain ⟨hcz7_0, hcz7_1, hcz7_2, hcz7_3, hfz7_0, hfz7_1, hfz7_2, hfz7_3⟩ := four_ BK202.out))
 refine bodyPost_ret (results_ctt rfl _ _ gb202 25 #[.int .i64 t204, .int .i64 t205, .int .i64 t206, .int .i64 t207] (0, 0) _ rfl (by (with_reducible repeat (first | refine blk_drewN ?_ _ | refine blk_drew ?_ | refine blk_alloc ?_ _)); refine blk_put (cs := #[.int .i64 t204, .int .i64 t205, .int .i64 t206, .int .i64 0]) ?_ 3 _ rfl; (with_reducible repeat (first | refine blk_drewN ?_ _ | refine blk_drew ?_ | refine blk_alloc ?_ _)); refine blk_put (cs := #[.int .i64 t204, .int .i64 t205, .int .i64 0, .int .i64 0]) ?_ 2 _ rfl; (with_reducible repeat (first | refine blk_drewN ?_ _ | refine blk_drew ?_ | refine blk_alloc ?_ _)); refine blk_put (cs := #[.int .i64 t204, .int .i64 0, .int .i64 0, .int .i64 0]) ?_ 1 _ rfl; (with_reducible repeat (first | refine blk_drewN ?_ _ | refine blk_drew ?_ | refine blk_alloc ?_ _)); refine blk_put (cs := #[.int .i64 0, .int .i64 0, .int .i64 0, .int .i64 0]) ?_ 0 _ rfl; (with_reducible repeat (first | refine blk_drewN ?_ _ | refine blk_drew ?_ | refine blk_alloc ?_ _)); exact BK202.out) Tryz.underlying25 rfl (by kernel_rfl)) rfl ?_
 exact ⟨rt_, by repeat (first | (with_reducible first | exact HB.out | apply below_alloc | apply pw_below_drewN | apply below_drew1 | refine below_set ?_ (IsS55.ge HI203.out) | refine below_set ?_ GE202.out) | exact HB.out)⟩

/-! ### impl_within: function 42 -/
def impl_within.f (a0 : Int) (a1 : Int) (a2 : Int) : Option (Bool) := if a0 ≥ a1 then (some (decide (a0 ≤ a2))) else (some false)
set_option maxHeartbeats 8000000 in
set_option maxRecDepth 100000 in
theorem impl_within.calls (a0 : Int) (a1 : Int) (a2 : Int) (r : Bool) (w : World) (h : impl_within.f a0 a1 a2 = some r) :
  Calls Tryz.prog 42 #[.int .i64 a0, .int .i64 a1, .int .i64 a2] w fun e w' => e = .returned (.bool r) ∧ Drawn0 w w' := by
 have H : (if a0 ≥ a1 then (some (decide (a0 ≤ a2))) else (some false)) = some r := h
 clear h
 by_cases c4 : a0 ≥ a1
 ·
  rw [if_pos c4] at H
  have c4b0 : decide (a1 ≤ a0) = true := decide_eq_true c4
  clear c4
  obtain rfl := Option.some.inj H
  go_enter Tryz.func42, Tryz.ntmps42
  go_wp2
  go_ret
  exact ⟨rs_, by repeat (first | exact Drawn0.refl _ | apply Drawn0.step)⟩
 ·
  rw [if_neg c4] at H
  have c4b0 : decide (a1 ≤ a0) = false := decide_eq_false c4
  clear c4
  obtain rfl := Option.some.inj H
  go_enter Tryz.func42, Tryz.ntmps42
  go_wp2
  go_ret
  exact ⟨rs_, by repeat (first | exact Drawn0.refl _ | apply Drawn0.step)⟩

end Go.Proofs.YtajlcomankjcjadGreatDoor.PFnDogsChase
