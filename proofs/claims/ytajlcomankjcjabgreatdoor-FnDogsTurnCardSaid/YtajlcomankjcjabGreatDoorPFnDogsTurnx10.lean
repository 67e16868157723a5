-- Laid by a program of this session's (wip/gen/printp.sh): the functions that the law reaches, each with its walk.
import Derived.Test.YtajlcomankjcjabGreatDoorPFnDogsTurnx0
import Derived.Test.YtajlcomankjcjabGreatDoorPFnDogsTurnx2
import Derived.Test.YtajlcomankjcjabGreatDoorPFnDogsTurnx9
namespace Go.Proofs.YtajlcomankjcjabGreatDoor.PFnDogsTurn
open Go.RowKit Go.Proofs.YtajlcomankjcjabGreatDoorW.PrintWords Go.Proofs.YtajlcomankjcjabGreatDoorW.PrintLast Go.Proofs.YtajlcomankjcjabGreatDoorW.PrintMore
attribute [local go_sem] max2_int min2_int max_two min_two max_three min_three max_four min_four   -- for this text's walks alone
set_option linter.unusedVariables false
set_option linter.unusedSimpArgs false

/-! ### impl_ParseChase: function 29 -/
def impl_ParseChase.f (k : Nat) (a0 : ByteArray) : Option (Int × Int × Int × Int × Bool) := (impl_readNumbers.f k a0 (⟨#[45]⟩ : ByteArray)).bind fun bt378 => (if bt378.2 = true then (if (bt378.1.length : Int) = 4 then (if 0 < (bt378.1.length : Int) then (if 1 < (bt378.1.length : Int) then (if 2 < (bt378.1.length : Int) then (if 3 < (bt378.1.length : Int) then ((impl_IsChase.f (rd bt378.1 0) (rd bt378.1 1) (rd bt378.1 2) (rd bt378.1 3)).bind fun t386 => (if t386 = true then (some (rd bt378.1 0, rd bt378.1 1, rd bt378.1 2, rd bt378.1 3, true)) else (some (0, 0, 0, 0, false)))) else (none)) else (none)) else (none)) else (none)) else (some (0, 0, 0, 0, false))) else (some (0, 0, 0, 0, false)))

def impl_ParseChase.T2 : Bool × List (List Nat × List Nat) := (true, [([], []), ([0], [0]), ([1], [1]), ([2], [2]), ([3, 2], [2, 3]), ([4, 2], [2, 4]), ([2, 5], [2, 5]), ([6, 2], [6]), ([7], [7]), ([8, 7], [7, 8]), ([9, 7], [7, 9]), ([7], [7]), ([11, 7], [7, 11]), ([12, 7], [7, 12]), ([7], [7]), ([14, 7], [7, 14]), ([15, 7], [7, 15]), ([7], [7]), ([17, 7], [7, 17]), ([18, 7], [7, 18]), ([10, 13, 16, 19, 7], [7, 10, 13, 16, 19]), ([20, 7, 7], [7, 20]), ([21, 7], [7, 21]), ([7, 22], [7, 22])])
def impl_ParseChase.B2 : List Nat := [0, 1, 3, 7, 15, 31, 63, 127, 255, 511, 1023, 255, 2303, 6399, 255, 16639, 49407, 255, 131327, 393471, 1048575, 2097151, 4194303, 8388607]
theorem impl_ParseChase.tab2 : rtab .any (opsOf Tryz.f29 2) = impl_ParseChase.T2 := by kernel_rfl
theorem impl_ParseChase.bits2 : waitsOk impl_ParseChase.T2.2 impl_ParseChase.B2 = true := by kernel_rfl
def impl_ParseChase.T4 : Bool × List (List Nat × List Nat) := (true, [([], []), ([0], [0]), ([1], [1]), ([], []), ([3], [3]), ([4], [4]), ([], []), ([6], [6]), ([7], [7]), ([], []), ([9], [9]), ([10], [10]), ([2, 5, 8, 11], [2, 5, 8, 11]), ([12, 0, 1, 2, 3, 4, 5, 6, 7, 8, 9, 10, 11, 12], [12]), ([13, 0, 1, 2, 3, 4, 5, 6, 7, 8, 9, 10, 11, 12, 13], [])])
def impl_ParseChase.B4 : List Nat := [0, 1, 3, 0, 8, 24, 0, 64, 192, 0, 512, 1536, 4095, 8191, 16383]
theorem impl_ParseChase.tab4 : rtab .any (opsOf Tryz.f29 4) = impl_ParseChase.T4 := by kernel_rfl
theorem impl_ParseChase.bits4 : waitsOk impl_ParseChase.T4.2 impl_ParseChase.B4 = true := by kernel_rfl
set_option maxHeartbeats 8000000 in
set_option maxRecDepth 100000 in
theorem impl_ParseChase.calls (k : Nat) (a0 : ByteArray) (r1 : Int) (r2 : Int) (r3 : Int) (r4 : Int) (r5 : Bool) (w : World) (h : impl_ParseChase.f k a0 = some (r1, r2, r3, r4, r5)) (hL0 : LaidA w := by first | (with_reducible exact hL0) | exact LaidA.below hL0 (by repeat (first | (with_reducible first | exact HB.out | apply below_alloc | apply pw_below_drewN | apply below_drew1 | refine below_set ?_ (Nat.le_refl _) | refine below_set ?_ (Aside0.out (by assumption))) | exact HB.out | exact Below.refl _ _))) :
  Calls Tryz.prog 29 #[.string a0] w fun e w' => e = .returned (.tuple #[.agg #[.int .i64 r1, .int .i64 r2, .int .i64 r3, .int .i64 r4], .bool r5]) ∧ Below w.heap.size w w' := by
 have hu25 := Tryz.underlying25
 have HB := Aside0.mk (Below.refl w.heap.size w)
 have H : ((impl_readNumbers.f k a0 (⟨#[45]⟩ : ByteArray)).bind fun bt378 => (if bt378.2 = true then (if (bt378.1.length : Int) = 4 then (if 0 < (bt378.1.length : Int) then (if 1 < (bt378.1.length : Int) then (if 2 < (bt378.1.length : Int) then (if 3 < (bt378.1.length : Int) then ((impl_IsChase.f (rd bt378.1 0) (rd bt378.1 1) (rd bt378.1 2) (rd bt378.1 3)).bind fun t386 => (if t386 = true then (some (rd bt378.1 0, rd bt378.1 1, rd bt378.1 2, rd bt378.1 3, true)) else (some (0, 0, 0, 0, false)))) else (none)) else (none)) else (none)) else (none)) else (some (0, 0, 0, 0, false))) else (some (0, 0, 0, 0, false)))) = some (r1, r2, r3, r4, r5) := h
 clear h
 replace H := Option.bind_eq_some_iff.mp H
 obtain ⟨⟨t378, t379⟩, A20, H⟩ := H
 (try dsimp only at H)
 have A2 := Aside0.mk A20
 clear A20
 by_cases c3 : t379 = true
 ·
  subst c3
  rw [if_pos rfl] at H
  by_cases c4 : (t378.length : Int) = 4
  ·
   rw [if_pos c4] at H
   have c4b0 : ((t378.length : Int) == 4) = true := beq_iff_eq.mpr c4
   have c4b1 : ((t378.length : Int) != 4) = false := bne_eq_false_iff_eq.mpr c4
   clear c4
   by_cases c5 : 0 < (t378.length : Int)
   ·
    rw [if_pos c5] at H
    have c5b0 : decide (0 < (t378.length : Int)) = true := decide_eq_true c5
    have c5b1 : decide (0 < t378.length) = true := decide_eq_true (by omega)
    clear c5
    by_cases c6 : 1 < (t378.length : Int)
    ·
     rw [if_pos c6] at H
     have c6b0 : decide (1 < (t378.length : Int)) = true := decide_eq_true c6
     have c6b1 : decide (1 < t378.length) = true := decide_eq_true (by omega)
     clear c6
     by_cases c7 : 2 < (t378.length : Int)
     ·
      rw [if_pos c7] at H
      have c7b0 : decide (2 < (t378.length : Int)) = true := decide_eq_true c7
      have c7b1 : decide (2 < t378.length) = true := decide_eq_true (by omega)
      clear c7
      by_cases c8 : 3 < (t378.length : Int)
      ·
       rw [if_pos c8] at H
       have c8b0 : decide (3 < (t378.length : Int)) = true := decide_eq_true c8
       have c8b1 : decide (3 < t378.length) = true := decide_eq_true (by omega)
       clear c8
       replace H := Option.bind_eq_some_iff.mp H
       obtain ⟨t386, A90, H⟩ := H
       (try dsimp only at H)
       have A9 := Aside0.mk A90
       clear A90
       by_cases c10 : t386 = true
       ·
        subst c10
        rw [if_pos rfl] at H
        simp only [Option.some.injEq, Prod.mk.injEq] at H
        obtain ⟨rfl, rfl, rfl, rfl, rfl⟩ := H
        go_enter Tryz.func29, Tryz.ntmps29
        try go_wp2_with (first | ((with_reducible refine gate_dst (N := 2) rfl ?_); (try (refine gate_guard (by rfl) ?_; dsimp only)); refine box_event ?hg (N := 2) ?hd (cs := #[.int .i64 0, .int .i64 0, .int .i64 0, .int .i64 0]) (t := 25) ?hr ?_; (case hd => rfl); (case hg => rfl); (case hr => first | (go_simp; done) | (go_simp; rfl)); intro gb377 hg w11 hbox hb; have n0_ := Aside0.mk (below_step bw_ hb); have n1_ := Aside0.mk (hbox); have n2_ := Aside0.mk ((by rw [hg]; exact (below_size bw_) : w.heap.size ≤ gb377)); have n3_ := Aside0.mk ((by rw [hg]; exact (below_size bw_) : w.heap.size ≤ gb377)); clear HB; have HB := n0_; have BK377 := n1_; have GW377 := n2_; have GE377 := n3_; clear n0_ n1_ n2_ n3_; clear hb hbox hg) | ((with_reducible refine gate_callee (f := 45) rfl ?_); refine goesL_ (some 8) rfl rfl Tryz.func45 (by kernel_rfl) rfl #[.string a0, .string (⟨#[45]⟩ : ByteArray)] rfl (by (try simp only [List.map_toArray, List.map_cons, List.map_nil]); first | done | rfl | (simp only [List.length_drop, List.length_take]; rfl)) ?_; (with_reducible refine (impl_readNumbers.calls k a0 (⟨#[45]⟩ : ByteArray) t378 true _ A2.out).mono ?_); rintro e w12 ⟨v380, rfl, ho0, hb⟩; refine ⟨_, rfl, ?_⟩; have n0_ := Aside0.mk (Kd.R_lower ho0 (below_size bw_)); have n1_ := Aside0.mk (blk_below (g := gb377) (o := .cells #[.int .i64 0, .int .i64 0, .int .i64 0, .int .i64 0] 25 (0, 0)) bk_ hb); have n2_ := Aside0.mk (below_step bw_ hb); clear BK377; clear HB; have HO381 := n0_; have BK377 := n1_; have HB := n2_; clear n0_ n1_ n2_; (try clear hb); (try clear hb2); (try clear hk); (try clear hi); (try clear ho0)))
        have n0_ := Aside0.mk (Kd.R_drew HO381.out)
        have n1_ := Aside0.mk (blk_drew BK377.out)
        have n2_ := Aside0.mk (below_drew1 HB.out)
        clear HO381
        clear BK377
        clear HB
        have HO381 := n0_
        have BK377 := n1_
        have HB := n2_
        clear n0_ n1_ n2_
        obtain ⟨Ao14, co14, eo14⟩ := Kd.R_slice HO381.out
        (first | subst eo14 | (injection eo14 with f1_ f2_ f3_; have f4_ := f1_.symm; have f5_ := f3_.symm; clear f1_ f2_ f3_; subst f4_; subst f5_))
        have p382 : 0 ≤ (0 : Int) := (by omega)
        have q382 : 0 < (t378.length : Int) := of_decide_eq_true (by first | (with_reducible assumption) | assumption)
        obtain ⟨ad382, e382, hx382_0⟩ := Kd.at_int (Kd.R_reads' HO381.out).2.2 0 p382 q382
        cases e382
        have qi382 : (0 < t378.length) = True := eq_true (by omega)
        (try rw [show ((0 : Int)).toNat = 0 from rfl] at hx382_0)
        (try rw [Addr.add_zero'] at hx382_0)
        replace p382 := eq_true p382
        replace q382 := eq_true q382
        have p383 : 0 ≤ (1 : Int) := (by omega)
        have q383 : 1 < (t378.length : Int) := of_decide_eq_true (by first | (with_reducible assumption) | assumption)
        obtain ⟨ad383, e383, hx383_0⟩ := Kd.at_int (Kd.R_reads' HO381.out).2.2 1 p383 q383
        obtain rfl : ad382 = ad383 := (by injection e383)
        (try simp only [show (1 : Int).toNat = 1 from rfl, Nat.reduceMul, Nat.reduceEqDiff, Go.Addr.add, ↓reduceIte] at hx383_0)
        have qi383 : (1 < t378.length) = True := eq_true (by omega)
        (try rw [show ((1 : Int)).toNat = 1 from rfl] at hx383_0)
        replace p383 := eq_true p383
        replace q383 := eq_true q383
        have p384 : 0 ≤ (2 : Int) := (by omega)
        have q384 : 2 < (t378.length : Int) := of_decide_eq_true (by first | (with_reducible assumption) | assumption)
        obtain ⟨ad384, e384, hx384_0⟩ := Kd.at_int (Kd.R_reads' HO381.out).2.2 2 p384 q384
        obtain rfl : ad382 = ad384 := (by injection e384)
        (try simp only [show (2 : Int).toNat = 2 from rfl, Nat.reduceMul, Nat.reduceEqDiff, Go.Addr.add, ↓reduceIte] at hx384_0)
        have qi384 : (2 < t378.length) = True := eq_true (by omega)
        (try rw [show ((2 : Int)).toNat = 2 from rfl] at hx384_0)
        replace p384 := eq_true p384
        replace q384 := eq_true q384
        have p385 : 0 ≤ (3 : Int) := (by omega)
        have q385 : 3 < (t378.length : Int) := of_decide_eq_true (by first | (with_reducible assumption) | assumption)
        obtain ⟨ad385, e385, hx385_0⟩ := Kd.at_int (Kd.R_reads' HO381.out).2.2 3 p385 q385
        obtain rfl : ad382 = ad385 := (by injection e385)
        (try simp only [show (3 : Int).toNat = 3 from rfl, Nat.reduceMul, Nat.reduceEqDiff, Go.Addr.add, ↓reduceIte] at hx385_0)
        have qi385 : (3 < t378.length) = True := eq_true (by omega)
        (try rw [show ((3 : Int)).toNat = 3 from rfl] at hx385_0)
        replace p385 := eq_true p385
        replace q385 := eq_true q385
        refine start_ (n := 24) (S := fun w' => w'.cell? ad382 = some (.int .i64 (rd t378 0)) ∧ w'.cell? ⟨ad382.block, ad382.off + 1, none⟩ = some (.int .i64 (rd t378 1)) ∧ w'.cell? ⟨ad382.block, ad382.off + 2, none⟩ = some (.int .i64 (rd t378 2)) ∧ w'.cell? ⟨ad382.block, ad382.off + 3, none⟩ = some (.int .i64 (rd t378 3))) (ds := []) #[false, false, false, false, false, false, false, false, false, false, false, false, false, false, false, false, false, false, false, false, false, false, false, false] (by kernel_rfl) rfl rfl ⟨hx382_0, hx383_0, hx384_0, hx385_0⟩ (fun hHeld => ?_); refine with_tabW impl_ParseChase.tab2 impl_ParseChase.bits2 (fun HT_ HW_ => ?_)
        generalize w12.drew = w13 at HO381 BK377 HB hx382_0 hx383_0 hx384_0 hx385_0 hHeld ⊢
        refine pu_ 0 11 24 1 ?_
        refine pu_ 1 12 24 3 ?_
        refine pu_ 2 13 24 7 ?_
        refine pu_ 3 14 24 15 ?_
        refine pu_ 4 15 24 31 ?_
        refine pu_ 5 16 24 63 ?_
        refine pu_ 6 17 24 127 ?_
        refine pu_ 7 18 24 255 ?_
        refine pu_ 8 19 24 511 ?_
        refine pu_ 9 20 24 1023 ?_
        refine pu_ 11 22 24 3071 ?_
        refine pu_ 12 23 24 7167 ?_
        refine pu_ 14 25 24 23551 ?_
        refine pu_ 15 26 24 56319 ?_
        refine pu_ 17 28 24 187391 ?_
        refine pu_ 18 29 24 449535 ?_
        refine tk_ 10 21 24 450559 hHeld ?_
        refine tk_ 13 24 24 458751 hHeld ?_
        refine tk_ 16 27 24 524287 hHeld ?_
        refine tk_ 19 30 24 1048575 hHeld ?_
        refine pu_ 20 31 24 2097151 ?_
        refine one_ (i := 21) (N := some 32) (pm_ 24 4194303) rfl rfl (one_of HT_.out (by kernel_rfl)) (by decide) (fun K hK => ?_)
        refine goes_ Tryz.func13 (by kernel_rfl) rfl #[.agg #[.int .i64 (rd t378 0), .int .i64 (rd t378 1), .int .i64 (rd t378 2), .int .i64 (rd t378 3)]] (by rfl) rfl rfl (by (try simp only [List.map_toArray, List.map_cons, List.map_nil]); first | done | rfl | (simp only [List.length_drop, List.length_take]; rfl)) ?_
        with_reducible refine (impl_IsChase.calls (rd t378 0) (rd t378 1) (rd t378 2) (rd t378 3) true _ A9.out).mono ?_
        rintro e w15 ⟨rfl, hb⟩
        have HS0_ := (hb.cell (World.block_lt_of_cell? _ _ (hHeld.1))).trans (hHeld.1)
        have HS1_ := (hb.cell (World.block_lt_of_cell? _ _ (hHeld.2.1))).trans (hHeld.2.1)
        have HS2_ := (hb.cell (World.block_lt_of_cell? _ _ (hHeld.2.2.1))).trans (hHeld.2.2.1)
        have HS3_ := (hb.cell (World.block_lt_of_cell? _ _ (hHeld.2.2.2))).trans (hHeld.2.2.2)
        refine ⟨_, rfl, ?_⟩
        have n0_ := Aside0.mk (Kd.R_below (by (with_reducible repeat (first | apply Kd.R_alloc | apply Kd.R_drewN | apply Kd.R_drew)); exact HO381.out) hb)
        have n1_ := Aside0.mk (blk_below (g := gb377) (o := .cells #[.int .i64 0, .int .i64 0, .int .i64 0, .int .i64 0] 25 (0, 0)) bk_ hb)
        have n2_ := Aside0.mk (below_step bw_ hb)
        clear HO381
        clear BK377
        clear HB
        have HO381 := n0_
        have BK377 := n1_
        have HB := n2_
        clear n0_ n1_ n2_
        (try clear hb)
        (try clear hb2)
        (try clear hk)
        (try clear hi)
        refine hK.out _ _ ⟨HS0_, HS1_, HS2_, HS3_⟩ (fun hHeld => ?_)
        clear hK K
        refine norm_ (a' := ?_) ?_ ?_
        rotate_left
        ·
         show Act.put _ (some 32) _ = _
         simp only [Act.put, List.setIfInBounds_toArray, List.set_cons_zero, List.set_cons_succ, i64_w, i32_w]
         rfl
        refine pu_ 22 33 24 8388607 ?_
        refine pu_ 23 34 24 16777215 ?_
        refine done_ (done_of HT_.out (by kernel_rfl)) ?_
        try go_wp2
        have n0_ := Aside0.mk (Kd.R_drew HO381.out)
        have n1_ := Aside0.mk (blk_drew BK377.out)
        have n2_ := Aside0.mk (below_drew1 HB.out)
        clear HO381
        clear BK377
        clear HB
        have HO381 := n0_
        have BK377 := n1_
        have HB := n2_
        clear n0_ n1_ n2_
        have p387 : 0 ≤ (0 : Int) := (by omega)
        have q387 : 0 < (t378.length : Int) := of_decide_eq_true (by first | (with_reducible assumption) | assumption)
        obtain ⟨ad387, e387, hx387_0⟩ := Kd.at_int (Kd.R_reads' HO381.out).2.2 0 p387 q387
        obtain rfl : ad382 = ad387 := (by injection e387)
        have qi387 : (0 < t378.length) = True := eq_true (by omega)
        (try rw [show ((0 : Int)).toNat = 0 from rfl] at hx387_0)
        (try rw [Addr.add_zero'] at hx387_0)
        replace p387 := eq_true p387
        replace q387 := eq_true q387
        have p388 : 0 ≤ (1 : Int) := (by omega)
        have q388 : 1 < (t378.length : Int) := of_decide_eq_true (by first | (with_reducible assumption) | assumption)
        obtain ⟨ad388, e388, hx388_0⟩ := Kd.at_int (Kd.R_reads' HO381.out).2.2 1 p388 q388
        obtain rfl : ad382 = ad388 := (by injection e388)
        (try simp only [show (1 : Int).toNat = 1 from rfl, Nat.reduceMul, Nat.reduceEqDiff, Go.Addr.add, ↓reduceIte] at hx388_0)
        have qi388 : (1 < t378.length) = True := eq_true (by omega)
        (try rw [show ((1 : Int)).toNat = 1 from rfl] at hx388_0)
        replace p388 := eq_true p388
        replace q388 := eq_true q388
        have p389 : 0 ≤ (2 : Int) := (by omega)
        have q389 : 2 < (t378.length : Int) := of_decide_eq_true (by first | (with_reducible assumption) | assumption)
        obtain ⟨ad389, e389, hx389_0⟩ := Kd.at_int (Kd.R_reads' HO381.out).2.2 2 p389 q389
        obtain rfl : ad382 = ad389 := (by injection e389)
        (try simp only [show (2 : Int).toNat = 2 from rfl, Nat.reduceMul, Nat.reduceEqDiff, Go.Addr.add, ↓reduceIte] at hx389_0)
        have qi389 : (2 < t378.length) = True := eq_true (by omega)
        (try rw [show ((2 : Int)).toNat = 2 from rfl] at hx389_0)
        replace p389 := eq_true p389
        replace q389 := eq_true q389
        have p390 : 0 ≤ (3 : Int) := (by omega)
        have q390 : 3 < (t378.length : Int) := of_decide_eq_true (by first | (with_reducible assumption) | assumption)
        obtain ⟨ad390, e390, hx390_0⟩ := Kd.at_int (Kd.R_reads' HO381.out).2.2 3 p390 q390
        obtain rfl : ad382 = ad390 := (by injection e390)
        (try simp only [show (3 : Int).toNat = 3 from rfl, Nat.reduceMul, Nat.reduceEqDiff, Go.Addr.add, ↓reduceIte] at hx390_0)
        have qi390 : (3 < t378.length) = True := eq_true (by omega)
        (try rw [show ((3 : Int)).toNat = 3 from rfl] at hx390_0)
        replace p390 := eq_true p390
        replace q390 := eq_true q390
        refine start_ (n := 15) (S := fun w' => w'.cell? ad382 = some (.int .i64 (rd t378 0)) ∧ w'.cell? ⟨ad382.block, ad382.off + 1, none⟩ = some (.int .i64 (rd t378 1)) ∧ w'.cell? ⟨ad382.block, ad382.off + 2, none⟩ = some (.int .i64 (rd t378 2)) ∧ w'.cell? ⟨ad382.block, ad382.off + 3, none⟩ = some (.int .i64 (rd t378 3))) (ds := []) #[false, false, false, false, false, false, false, false, false, false, false, false, false, false, false] (by kernel_rfl) rfl rfl ⟨hx387_0, hx388_0, hx389_0, hx390_0⟩ (fun hHeld => ?_); refine with_tabW impl_ParseChase.tab4 impl_ParseChase.bits4 (fun HT_ HW_ => ?_)
        generalize w15.drew = w16 at HO381 BK377 HB hx387_0 hx388_0 hx389_0 hx390_0 hHeld ⊢
        refine pu_ 0 36 15 1 ?_
        refine pu_ 1 37 15 3 ?_
        refine pu_ 3 39 15 11 ?_
        refine pu_ 4 40 15 27 ?_
        refine pu_ 6 42 15 91 ?_
        refine pu_ 7 43 15 219 ?_
        refine pu_ 9 45 15 731 ?_
        refine pu_ 10 46 15 1755 ?_
        refine tk_ 2 38 15 1759 hHeld ?_
        refine tk_ 5 41 15 1791 hHeld ?_
        refine tk_ 8 44 15 2047 hHeld ?_
        refine tk_ 11 47 15 4095 hHeld ?_
        refine pu_ 12 48 15 8191 ?_
        refine one_ (i := 13) (N := none) (pm_ 15 16383) rfl rfl (one_of HT_.out (by kernel_rfl)) (by decide) (fun K hK => ?_)
        have hs17 : w16.cell? ⟨gb377, 0, none⟩ = some (.int .i64 0) := (blk_cell BK377.out 0).trans rfl
        have hfs17 := blk_frozen BK377.out 0
        have hs18 : w16.cell? ⟨gb377, 1, none⟩ = some (.int .i64 0) := (blk_cell BK377.out 1).trans rfl
        have hfs18 := blk_frozen BK377.out 1
        have hs19 : w16.cell? ⟨gb377, 2, none⟩ = some (.int .i64 0) := (blk_cell BK377.out 2).trans rfl
        have hfs19 := blk_frozen BK377.out 2
        have hs20 : w16.cell? ⟨gb377, 3, none⟩ = some (.int .i64 0) := (blk_cell BK377.out 3).trans rfl
        have hfs20 := blk_frozen BK377.out 3
        refine skip_ (w1 := ?_) (by rfl) rfl ?_ ?_
        rotate_left
        ·
         go_simp
         rfl
        refine hK.out _ _ ⟨((cell_far (p := ⟨gb377, _, none⟩) (by first | exact Kd.own_blk (Kd.R_ne HO381.out BK377.out (by decide)) | (rw [add_block]; exact Kd.own_blk (Kd.R_ne HO381.out BK377.out (by decide))) | (show (Addr.add _ _).block ≠ _; rw [add_block]; exact Kd.own_blk (Kd.R_ne HO381.out BK377.out (by decide))) | (dsimp only; exact Kd.own_blk (Kd.R_ne HO381.out BK377.out (by decide)))) _).trans (((cell_far (p := ⟨gb377, _, none⟩) (by first | exact Kd.own_blk (Kd.R_ne HO381.out BK377.out (by decide)) | (rw [add_block]; exact Kd.own_blk (Kd.R_ne HO381.out BK377.out (by decide))) | (show (Addr.add _ _).block ≠ _; rw [add_block]; exact Kd.own_blk (Kd.R_ne HO381.out BK377.out (by decide))) | (dsimp only; exact Kd.own_blk (Kd.R_ne HO381.out BK377.out (by decide)))) _).trans (((cell_far (p := ⟨gb377, _, none⟩) (by first | exact Kd.own_blk (Kd.R_ne HO381.out BK377.out (by decide)) | (rw [add_block]; exact Kd.own_blk (Kd.R_ne HO381.out BK377.out (by decide))) | (show (Addr.add _ _).block ≠ _; rw [add_block]; exact Kd.own_blk (Kd.R_ne HO381.out BK377.out (by decide))) | (dsimp only; exact Kd.own_blk (Kd.R_ne HO381.out BK377.out (by decide)))) _).trans (((cell_far (p := ⟨gb377, _, none⟩) (by first | exact Kd.own_blk (Kd.R_ne HO381.out BK377.out (by decide)) | (rw [add_block]; exact Kd.own_blk (Kd.R_ne HO381.out BK377.out (by decide))) | (show (Addr.add _ _).block ≠ _; rw [add_block]; exact Kd.own_blk (Kd.R_ne HO381.out BK377.out (by decide))) | (dsimp only; exact Kd.own_blk (Kd.R_ne HO381.out BK377.out (by decide)))) _).trans (hHeld.1)))))))), ((cell_far (p := ⟨gb377, _, none⟩) (by first | exact Kd.own_blk (Kd.R_ne HO381.out BK377.out (by decide)) | (rw [add_block]; exact Kd.own_blk (Kd.R_ne HO381.out BK377.out (by decide))) | (show (Addr.add _ _).block ≠ _; rw [add_block]; exact Kd.own_blk (Kd.R_ne HO381.out BK377.out (by decide))) | (dsimp only; exact Kd.own_blk (Kd.R_ne HO381.out BK377.out (by decide)))) _).trans (((cell_far (p := ⟨gb377, _, none⟩) (by first | exact Kd.own_blk (Kd.R_ne HO381.out BK377.out (by decide)) | (rw [add_block]; exact Kd.own_blk (Kd.R_ne HO381.out BK377.out (by decide))) | (show (Addr.add _ _).block ≠ _; rw [add_block]; exact Kd.own_blk (Kd.R_ne HO381.out BK377.out (by decide))) | (dsimp only; exact Kd.own_blk (Kd.R_ne HO381.out BK377.out (by decide)))) _).trans (((cell_far (p := ⟨gb377, _, none⟩) (by first | exact Kd.own_blk (Kd.R_ne HO381.out BK377.out (by decide)) | (rw [add_block]; exact Kd.own_blk (Kd.R_ne HO381.out BK377.out (by decide))) | (show (Addr.add _ _).block ≠ _; rw [add_block]; exact Kd.own_blk (Kd.R_ne HO381.out BK377.out (by decide))) | (dsimp only; exact Kd.own_blk (Kd.R_ne HO381.out BK377.out (by decide)))) _).trans (((cell_far (p := ⟨gb377, _, none⟩) (by first | exact Kd.own_blk (Kd.R_ne HO381.out BK377.out (by decide)) | (rw [add_block]; exact Kd.own_blk (Kd.R_ne HO381.out BK377.out (by decide))) | (show (Addr.add _ _).block ≠ _; rw [add_block]; exact Kd.own_blk (Kd.R_ne HO381.out BK377.out (by decide))) | (dsimp only; exact Kd.own_blk (Kd.R_ne HO381.out BK377.out (by decide)))) _).trans (hHeld.2.1)))))))), ((cell_far (p := ⟨gb377, _, none⟩) (by first | exact Kd.own_blk (Kd.R_ne HO381.out BK377.out (by decide)) | (rw [add_block]; exact Kd.own_blk (Kd.R_ne HO381.out BK377.out (by decide))) | (show (Addr.add _ _).block ≠ _; rw [add_block]; exact Kd.own_blk (Kd.R_ne HO381.out BK377.out (by decide))) | (dsimp only; exact Kd.own_blk (Kd.R_ne HO381.out BK377.out (by decide)))) _).trans (((cell_far (p := ⟨gb377, _, none⟩) (by first | exact Kd.own_blk (Kd.R_ne HO381.out BK377.out (by decide)) | (rw [add_block]; exact Kd.own_blk (Kd.R_ne HO381.out BK377.out (by decide))) | (show (Addr.add _ _).block ≠ _; rw [add_block]; exact Kd.own_blk (Kd.R_ne HO381.out BK377.out (by decide))) | (dsimp only; exact Kd.own_blk (Kd.R_ne HO381.out BK377.out (by decide)))) _).trans (((cell_far (p := ⟨gb377, _, none⟩) (by first | exact Kd.own_blk (Kd.R_ne HO381.out BK377.out (by decide)) | (rw [add_block]; exact Kd.own_blk (Kd.R_ne HO381.out BK377.out (by decide))) | (show (Addr.add _ _).block ≠ _; rw [add_block]; exact Kd.own_blk (Kd.R_ne HO381.out BK377.out (by decide))) | (dsimp only; exact Kd.own_blk (Kd.R_ne HO381.out BK377.out (by decide)))) _).trans (((cell_far (p := ⟨gb377, _, none⟩) (by first | exact Kd.own_blk (Kd.R_ne HO381.out BK377.out (by decide)) | (rw [add_block]; exact Kd.own_blk (Kd.R_ne HO381.out BK377.out (by decide))) | (show (Addr.add _ _).block ≠ _; rw [add_block]; exact Kd.own_blk (Kd.R_ne HO381.out BK377.out (by decide))) | (dsimp only; exact Kd.own_blk (Kd.R_ne HO381.out BK377.out (by decide)))) _).trans (hHeld.2.2.1)))))))), ((cell_far (p := ⟨gb377, _, none⟩) (by first | exact Kd.own_blk (Kd.R_ne HO381.out BK377.out (by decide)) | (rw [add_block]; exact Kd.own_blk (Kd.R_ne HO381.out BK377.out (by decide))) | (show (Addr.add _ _).block ≠ _; rw [add_block]; exact Kd.own_blk (Kd.R_ne HO381.out BK377.out (by decide))) | (dsimp only; exact Kd.own_blk (Kd.R_ne HO381.out BK377.out (by decide)))) _).trans (((cell_far (p := ⟨gb377, _, none⟩) (by first | exact Kd.own_blk (Kd.R_ne HO381.out BK377.out (by decide)) | (rw [add_block]; exact Kd.own_blk (Kd.R_ne HO381.out BK377.out (by decide))) | (show (Addr.add _ _).block ≠ _; rw [add_block]; exact Kd.own_blk (Kd.R_ne HO381.out BK377.out (by decide))) | (dsimp only; exact Kd.own_blk (Kd.R_ne HO381.out BK377.out (by decide)))) _).trans (((cell_far (p := ⟨gb377, _, none⟩) (by first | exact Kd.own_blk (Kd.R_ne HO381.out BK377.out (by decide)) | (rw [add_block]; exact Kd.own_blk (Kd.R_ne HO381.out BK377.out (by decide))) | (show (Addr.add _ _).block ≠ _; rw [add_block]; exact Kd.own_blk (Kd.R_ne HO381.out BK377.out (by decide))) | (dsimp only; exact Kd.own_blk (Kd.R_ne HO381.out BK377.out (by decide)))) _).trans (((cell_far (p := ⟨gb377, _, none⟩) (by first | exact Kd.own_blk (Kd.R_ne HO381.out BK377.out (by decide)) | (rw [add_block]; exact Kd.own_blk (Kd.R_ne HO381.out BK377.out (by decide))) | (show (Addr.add _ _).block ≠ _; rw [add_block]; exact Kd.own_blk (Kd.R_ne HO381.out BK377.out (by decide))) | (dsimp only; exact Kd.own_blk (Kd.R_ne HO381.out BK377.out (by decide)))) _).trans (hHeld.2.2.2))))))))⟩ (fun hHeld => ?_)
        clear hK K
        refine pu_ 14 3 15 32767 ?_
        refine done_ (done_of HT_.out (by kernel_rfl)) ?_
        try go_wp2
        refine bodyPost_ret (results_ct rfl _ _ gb377 25 #[.int .i64 (rd t378 0), .int .i64 (rd t378 1), .int .i64 (rd t378 2), .int .i64 (rd t378 3)] (0, 0) _ rfl (by (with_reducible repeat (first | refine blk_drewN ?_ _ | refine blk_drew ?_ | refine blk_alloc ?_ _)); refine blk_put (cs := #[.int .i64 (rd t378 0), .int .i64 (rd t378 1), .int .i64 (rd t378 2), .int .i64 0]) ?_ 3 _ rfl; (with_reducible repeat (first | refine blk_drewN ?_ _ | refine blk_drew ?_ | refine blk_alloc ?_ _)); refine blk_put (cs := #[.int .i64 (rd t378 0), .int .i64 (rd t378 1), .int .i64 0, .int .i64 0]) ?_ 2 _ rfl; (with_reducible repeat (first | refine blk_drewN ?_ _ | refine blk_drew ?_ | refine blk_alloc ?_ _)); refine blk_put (cs := #[.int .i64 (rd t378 0), .int .i64 0, .int .i64 0, .int .i64 0]) ?_ 1 _ rfl; (with_reducible repeat (first | refine blk_drewN ?_ _ | refine blk_drew ?_ | refine blk_alloc ?_ _)); refine blk_put (cs := #[.int .i64 0, .int .i64 0, .int .i64 0, .int .i64 0]) ?_ 0 _ rfl; (with_reducible repeat (first | refine blk_drewN ?_ _ | refine blk_drew ?_ | refine blk_alloc ?_ _)); exact BK377.out) Tryz.underlying25 rfl (by kernel_rfl)) rfl ?_
        exact ⟨by first | rfl | (simp [errW_none, errW_some] <;> rfl) | (simp [*, errW_none, errW_some] <;> rfl), by repeat (first | (with_reducible first | exact HB.out | apply below_alloc | apply pw_below_drewN | apply below_drew1 | refine below_set ?_ GE377.out) | exact HB.out)⟩
       ·
        replace c10 := Bool.eq_false_iff.mpr c10
        subst c10
        rw [if_neg (show ¬ (false = true) by decide)] at H
        simp only [Option.some.injEq, Prod.mk.injEq] at H
        obtain ⟨rfl, rfl, rfl, rfl, rfl⟩ := H
        go_enter Tryz.func29, Tryz.ntmps29
        try go_wp2_with (first | ((with_reducible refine gate_dst (N := 2) rfl ?_); (try (refine gate_guard (by rfl) ?_; dsimp only)); refine box_event ?hg (N := 2) ?hd (cs := #[.int .i64 0, .int .i64 0, .int .i64 0, .int .i64 0]) (t := 25) ?hr ?_; (case hd => rfl); (case hg => rfl); (case hr => first | (go_simp; done) | (go_simp; rfl)); intro gb377 hg w21 hbox hb; have n0_ := Aside0.mk (below_step bw_ hb); have n1_ := Aside0.mk (hbox); have n2_ := Aside0.mk ((by rw [hg]; exact (below_size bw_) : w.heap.size ≤ gb377)); have n3_ := Aside0.mk ((by rw [hg]; exact (below_size bw_) : w.heap.size ≤ gb377)); clear HB; have HB := n0_; have BK377 := n1_; have GW377 := n2_; have GE377 := n3_; clear n0_ n1_ n2_ n3_; clear hb hbox hg) | ((with_reducible refine gate_callee (f := 45) rfl ?_); refine goesL_ (some 8) rfl rfl Tryz.func45 (by kernel_rfl) rfl #[.string a0, .string (⟨#[45]⟩ : ByteArray)] rfl (by (try simp only [List.map_toArray, List.map_cons, List.map_nil]); first | done | rfl | (simp only [List.length_drop, List.length_take]; rfl)) ?_; (with_reducible refine (impl_readNumbers.calls k a0 (⟨#[45]⟩ : ByteArray) t378 true _ A2.out).mono ?_); rintro e w22 ⟨v380, rfl, ho0, hb⟩; refine ⟨_, rfl, ?_⟩; have n0_ := Aside0.mk (Kd.R_lower ho0 (below_size bw_)); have n1_ := Aside0.mk (blk_below (g := gb377) (o := .cells #[.int .i64 0, .int .i64 0, .int .i64 0, .int .i64 0] 25 (0, 0)) bk_ hb); have n2_ := Aside0.mk (below_step bw_ hb); clear BK377; clear HB; have HO381 := n0_; have BK377 := n1_; have HB := n2_; clear n0_ n1_ n2_; (try clear hb); (try clear hb2); (try clear hk); (try clear hi); (try clear ho0)))
        have n0_ := Aside0.mk (Kd.R_drew HO381.out)
        have n1_ := Aside0.mk (blk_drew BK377.out)
        have n2_ := Aside0.mk (below_drew1 HB.out)
        clear HO381
        clear BK377
        clear HB
        have HO381 := n0_
        have BK377 := n1_
        have HB := n2_
        clear n0_ n1_ n2_
        obtain ⟨Ao24, co24, eo24⟩ := Kd.R_slice HO381.out
        (first | subst eo24 | (injection eo24 with f1_ f2_ f3_; have f4_ := f1_.symm; have f5_ := f3_.symm; clear f1_ f2_ f3_; subst f4_; subst f5_))
        have p382 : 0 ≤ (0 : Int) := (by omega)
        have q382 : 0 < (t378.length : Int) := of_decide_eq_true (by first | (with_reducible assumption) | assumption)
        obtain ⟨ad382, e382, hx382_0⟩ := Kd.at_int (Kd.R_reads' HO381.out).2.2 0 p382 q382
        cases e382
        have qi382 : (0 < t378.length) = True := eq_true (by omega)
        (try rw [show ((0 : Int)).toNat = 0 from rfl] at hx382_0)
        (try rw [Addr.add_zero'] at hx382_0)
        replace p382 := eq_true p382
        replace q382 := eq_true q382
        have p383 : 0 ≤ (1 : Int) := (by omega)
        have q383 : 1 < (t378.length : Int) := of_decide_eq_true (by first | (with_reducible assumption) | assumption)
        obtain ⟨ad383, e383, hx383_0⟩ := Kd.at_int (Kd.R_reads' HO381.out).2.2 1 p383 q383
        obtain rfl : ad382 = ad383 := (by injection e383)
        (try simp only [show (1 : Int).toNat = 1 from rfl, Nat.reduceMul, Nat.reduceEqDiff, Go.Addr.add, ↓reduceIte] at hx383_0)
        have qi383 : (1 < t378.length) = True := eq_true (by omega)
        (try rw [show ((1 : Int)).toNat = 1 from rfl] at hx383_0)
        replace p383 := eq_true p383
        replace q383 := eq_true q383
        have p384 : 0 ≤ (2 : Int) := (by omega)
        have q384 : 2 < (t378.length : Int) := of_decide_eq_true (by first | (with_reducible assumption) | assumption)
        obtain ⟨ad384, e384, hx384_0⟩ := Kd.at_int (Kd.R_reads' HO381.out).2.2 2 p384 q384
        obtain rfl : ad382 = ad384 := (by injection e384)
        (try simp only [show (2 : Int).toNat = 2 from rfl, Nat.reduceMul, Nat.reduceEqDiff, Go.Addr.add, ↓reduceIte] at hx384_0)
        have qi384 : (2 < t378.length) = True := eq_true (by omega)
        (try rw [show ((2 : Int)).toNat = 2 from rfl] at hx384_0)
        replace p384 := eq_true p384
        replace q384 := eq_true q384
        have p385 : 0 ≤ (3 : Int) := (by omega)
        have q385 : 3 < (t378.length : Int) := of_decide_eq_true (by first | (with_reducible assumption) | assumption)
        obtain ⟨ad385, e385, hx385_0⟩ := Kd.at_int (Kd.R_reads' HO381.out).2.2 3 p385 q385
        obtain rfl : ad382 = ad385 := (by injection e385)
        (try simp only [show (3 : Int).toNat = 3 from rfl, Nat.reduceMul, Nat.reduceEqDiff, Go.Addr.add, ↓reduceIte] at hx385_0)
        have qi385 : (3 < t378.length) = True := eq_true (by omega)
        (try rw [show ((3 : Int)).toNat = 3 from rfl] at hx385_0)
        replace p385 := eq_true p385
        replace q385 := eq_true q385
        refine start_ (n := 24) (S := fun w' => w'.cell? ad382 = some (.int .i64 (rd t378 0)) ∧ w'.cell? ⟨ad382.block, ad382.off + 1, none⟩ = some (.int .i64 (rd t378 1)) ∧ w'.cell? ⟨ad382.block, ad382.off + 2, none⟩ = some (.int .i64 (rd t378 2)) ∧ w'.cell? ⟨ad382.block, ad382.off + 3, none⟩ = some (.int .i64 (rd t378 3))) (ds := []) #[false, false, false, false, false, false, false, false, false, false, false, false, false, false, false, false, false, false, false, false, false, false, false, false] (by kernel_rfl) rfl rfl ⟨hx382_0, hx383_0, hx384_0, hx385_0⟩ (fun hHeld => ?_); refine with_tabW impl_ParseChase.tab2 impl_ParseChase.bits2 (fun HT_ HW_ => ?_)
        generalize w22.drew = w23 at HO381 BK377 HB hx382_0 hx383_0 hx384_0 hx385_0 hHeld ⊢
        refine pu_ 0 11 24 1 ?_
        refine pu_ 1 12 24 3 ?_
        refine pu_ 2 13 24 7 ?_
        refine pu_ 3 14 24 15 ?_
        refine pu_ 4 15 24 31 ?_
        refine pu_ 5 16 24 63 ?_
        refine pu_ 6 17 24 127 ?_
        refine pu_ 7 18 24 255 ?_
        refine pu_ 8 19 24 511 ?_
        refine pu_ 9 20 24 1023 ?_
        refine pu_ 11 22 24 3071 ?_
        refine pu_ 12 23 24 7167 ?_
        refine pu_ 14 25 24 23551 ?_
        refine pu_ 15 26 24 56319 ?_
        refine pu_ 17 28 24 187391 ?_
        refine pu_ 18 29 24 449535 ?_
        refine tk_ 10 21 24 450559 hHeld ?_
        refine tk_ 13 24 24 458751 hHeld ?_
        refine tk_ 16 27 24 524287 hHeld ?_
        refine tk_ 19 30 24 1048575 hHeld ?_
        refine pu_ 20 31 24 2097151 ?_
        refine one_ (i := 21) (N := some 32) (pm_ 24 4194303) rfl rfl (one_of HT_.out (by kernel_rfl)) (by decide) (fun K hK => ?_)
        refine goes_ Tryz.func13 (by kernel_rfl) rfl #[.agg #[.int .i64 (rd t378 0), .int .i64 (rd t378 1), .int .i64 (rd t378 2), .int .i64 (rd t378 3)]] (by rfl) rfl rfl (by (try simp only [List.map_toArray, List.map_cons, List.map_nil]); first | done | rfl | (simp only [List.length_drop, List.length_take]; rfl)) ?_
        with_reducible refine (impl_IsChase.calls (rd t378 0) (rd t378 1) (rd t378 2) (rd t378 3) false _ A9.out).mono ?_
        rintro e w25 ⟨rfl, hb⟩
        have HS0_ := (hb.cell (World.block_lt_of_cell? _ _ (hHeld.1))).trans (hHeld.1)
        have HS1_ := (hb.cell (World.block_lt_of_cell? _ _ (hHeld.2.1))).trans (hHeld.2.1)
        have HS2_ := (hb.cell (World.block_lt_of_cell? _ _ (hHeld.2.2.1))).trans (hHeld.2.2.1)
        have HS3_ := (hb.cell (World.block_lt_of_cell? _ _ (hHeld.2.2.2))).trans (hHeld.2.2.2)
        refine ⟨_, rfl, ?_⟩
        have n0_ := Aside0.mk (Kd.R_below (by (with_reducible repeat (first | apply Kd.R_alloc | apply Kd.R_drewN | apply Kd.R_drew)); exact HO381.out) hb)
        have n1_ := Aside0.mk (blk_below (g := gb377) (o := .cells #[.int .i64 0, .int .i64 0, .int .i64 0, .int .i64 0] 25 (0, 0)) bk_ hb)
        have n2_ := Aside0.mk (below_step bw_ hb)
        clear HO381
        clear BK377
        clear HB
        have HO381 := n0_
        have BK377 := n1_
        have HB := n2_
        clear n0_ n1_ n2_
        (try clear hb)
        (try clear hb2)
        (try clear hk)
        (try clear hi)
        refine hK.out _ _ ⟨HS0_, HS1_, HS2_, HS3_⟩ (fun hHeld => ?_)
        clear hK K
        refine norm_ (a' := ?_) ?_ ?_
        rotate_left
        ·
         show Act.put _ (some 32) _ = _
         simp only [Act.put, List.setIfInBounds_toArray, List.set_cons_zero, List.set_cons_succ, i64_w, i32_w]
         rfl
        refine pu_ 22 33 24 8388607 ?_
        refine pu_ 23 34 24 16777215 ?_
        refine done_ (done_of HT_.out (by kernel_rfl)) ?_
        have hcz26_0 : w25.cell? ⟨gb377, 0, none⟩ = some (.int .i64 0) := (blk_cell BK377.out 0).trans rfl
        have hcz26_1 : w25.cell? ⟨gb377, 1, none⟩ = some (.int .i64 0) := (blk_cell BK377.out 1).trans rfl
        have hcz26_2 : w25.cell? ⟨gb377, 2, none⟩ = some (.int .i64 0) := (blk_cell BK377.out 2).trans rfl
        have hcz26_3 : w25.cell? ⟨gb377, 3, none⟩ = some (.int .i64 0) := (blk_cell BK377.out 3).trans rfl
        have hfz26_0 := blk_frozen BK377.out 0
        have hfz26_1 := blk_frozen BK377.out 1
        have hfz26_2 := blk_frozen BK377.out 2
        have hfz26_3 := blk_frozen BK377.out 3
        try go_wp2
        refine bodyPost_ret (results_ct rfl _ _ gb377 25 #[.int .i64 0, .int .i64 0, .int .i64 0, .int .i64 0] (0, 0) _ rfl (by (with_reducible repeat (first | refine blk_drewN ?_ _ | refine blk_drew ?_ | refine blk_alloc ?_ _)); refine blk_put (cs := #[.int .i64 0, .int .i64 0, .int .i64 0, .int .i64 0]) ?_ 3 _ rfl; (with_reducible repeat (first | refine blk_drewN ?_ _ | refine blk_drew ?_ | refine blk_alloc ?_ _)); refine blk_put (cs := #[.int .i64 0, .int .i64 0, .int .i64 0, .int .i64 0]) ?_ 2 _ rfl; (with_reducible repeat (first | refine blk_drewN ?_ _ | refine blk_drew ?_ | refine blk_alloc ?_ _)); refine blk_put (cs := #[.int .i64 0, .int .i64 0, .int .i64 0, .int .i64 0]) ?_ 1 _ rfl; (with_reducible repeat (first | refine blk_drewN ?_ _ | refine blk_drew ?_ | refine blk_alloc ?_ _)); refine blk_put (cs := #[.int .i64 0, .int .i64 0, .int .i64 0, .int .i64 0]) ?_ 0 _ rfl; (with_reducible repeat (first | refine blk_drewN ?_ _ | refine blk_drew ?_ | refine blk_alloc ?_ _)); exact BK377.out) Tryz.underlying25 rfl (by kernel_rfl)) rfl ?_
        exact ⟨by first | rfl | (simp [errW_none, errW_some] <;> rfl) | (simp [*, errW_none, errW_some] <;> rfl), by repeat (first | (with_reducible first | exact HB.out | apply below_alloc | apply pw_below_drewN | apply below_drew1 | refine below_set ?_ GE377.out) | exact HB.out)⟩
      ·
       rw [if_neg c8] at H
       exact absurd H (by simp)
     ·
      rw [if_neg c7] at H
      exact absurd H (by simp)
    ·
     rw [if_neg c6] at H
     exact absurd H (by simp)
   ·
    rw [if_neg c5] at H
    exact absurd H (by simp)
  ·
   rw [if_neg c4] at H
   have c4b0 : ((t378.length : Int) == 4) = false := beq_eq_false_iff_ne.mpr c4
   have c4b1 : ((t378.length : Int) != 4) = true := bne_iff_ne.mpr c4
   simp only [Option.some.injEq, Prod.mk.injEq] at H
   obtain ⟨rfl, rfl, rfl, rfl, rfl⟩ := H
   go_enter Tryz.func29, Tryz.ntmps29
   try go_wp2_with (first | ((with_reducible refine gate_dst (N := 2) rfl ?_); (try (refine gate_guard (by rfl) ?_; dsimp only)); refine box_event ?hg (N := 2) ?hd (cs := #[.int .i64 0, .int .i64 0, .int .i64 0, .int .i64 0]) (t := 25) ?hr ?_; (case hd => rfl); (case hg => rfl); (case hr => first | (go_simp; done) | (go_simp; rfl)); intro gb377 hg w27 hbox hb; have n0_ := Aside0.mk (below_step bw_ hb); have n1_ := Aside0.mk (hbox); have n2_ := Aside0.mk ((by rw [hg]; exact (below_size bw_) : w.heap.size ≤ gb377)); have n3_ := Aside0.mk ((by rw [hg]; exact (below_size bw_) : w.heap.size ≤ gb377)); clear HB; have HB := n0_; have BK377 := n1_; have GW377 := n2_; have GE377 := n3_; clear n0_ n1_ n2_ n3_; clear hb hbox hg) | ((with_reducible refine gate_callee (f := 45) rfl ?_); refine goesL_ (some 8) rfl rfl Tryz.func45 (by kernel_rfl) rfl #[.string a0, .string (⟨#[45]⟩ : ByteArray)] rfl (by (try simp only [List.map_toArray, List.map_cons, List.map_nil]); first | done | rfl | (simp only [List.length_drop, List.length_take]; rfl)) ?_; (with_reducible refine (impl_readNumbers.calls k a0 (⟨#[45]⟩ : ByteArray) t378 true _ A2.out).mono ?_); rintro e w28 ⟨v380, rfl, ho0, hb⟩; refine ⟨_, rfl, ?_⟩; have n0_ := Aside0.mk (Kd.R_lower ho0 (below_size bw_)); have n1_ := Aside0.mk (blk_below (g := gb377) (o := .cells #[.int .i64 0, .int .i64 0, .int .i64 0, .int .i64 0] 25 (0, 0)) bk_ hb); have n2_ := Aside0.mk (below_step bw_ hb); clear BK377; clear HB; have HO381 := n0_; have BK377 := n1_; have HB := n2_; clear n0_ n1_ n2_; (try clear hb); (try clear hb2); (try clear hk); (try clear hi); (try clear ho0)))
   have n0_ := Aside0.mk (Kd.R_drew HO381.out)
   have n1_ := Aside0.mk (blk_drew BK377.out)
   have n2_ := Aside0.mk (below_drew1 HB.out)
   clear HO381
   clear BK377
   clear HB
   have HO381 := n0_
   have BK377 := n1_
   have HB := n2_
   clear n0_ n1_ n2_
   obtain ⟨Ao30, co30, eo30⟩ := Kd.R_slice HO381.out
   (first | subst eo30 | (injection eo30 with f1_ f2_ f3_; have f4_ := f1_.symm; have f5_ := f3_.symm; clear f1_ f2_ f3_; subst f4_; subst f5_))
   refine start_ (n := 24) (S := fun w' => True) (ds := []) #[false, false, false, false, false, false, false, false, false, false, false, false, false, false, false, false, false, false, false, false, false, false, false, false] (by kernel_rfl) rfl rfl trivial (fun hHeld => ?_); refine with_tabW impl_ParseChase.tab2 impl_ParseChase.bits2 (fun HT_ HW_ => ?_)
   generalize w28.drew = w29 at HO381 BK377 HB hHeld ⊢
   refine pu_ 0 11 24 1 ?_
   refine pu_ 1 12 24 3 ?_
   refine pu_ 2 13 24 7 ?_
   refine pu_ 3 14 24 15 ?_
   refine pu_ 4 15 24 31 ?_
   refine pu_ 5 16 24 63 ?_
   refine pu_ 6 17 24 127 ?_
   refine pu_ 7 18 24 255 ?_
   refine po_ 8 19 24 511 ?_
   refine po_ 9 20 24 1023 ?_
   refine po_ 10 21 24 2047 ?_
   refine po_ 11 22 24 4095 ?_
   refine po_ 12 23 24 8191 ?_
   refine po_ 13 24 24 16383 ?_
   refine po_ 14 25 24 32767 ?_
   refine po_ 15 26 24 65535 ?_
   refine po_ 16 27 24 131071 ?_
   refine po_ 17 28 24 262143 ?_
   refine po_ 18 29 24 524287 ?_
   refine po_ 19 30 24 1048575 ?_
   refine po_ 20 31 24 2097151 ?_
   refine po_ 21 32 24 4194303 ?_
   refine po_ 22 33 24 8388607 ?_
   refine pu_ 23 34 24 16777215 ?_
   refine done_ (done_of HT_.out (by kernel_rfl)) ?_
   have hcz31_0 : w29.cell? ⟨gb377, 0, none⟩ = some (.int .i64 0) := (blk_cell BK377.out 0).trans rfl
   have hcz31_1 : w29.cell? ⟨gb377, 1, none⟩ = some (.int .i64 0) := (blk_cell BK377.out 1).trans rfl
   have hcz31_2 : w29.cell? ⟨gb377, 2, none⟩ = some (.int .i64 0) := (blk_cell BK377.out 2).trans rfl
   have hcz31_3 : w29.cell? ⟨gb377, 3, none⟩ = some (.int .i64 0) := (blk_cell BK377.out 3).trans rfl
   have hfz31_0 := blk_frozen BK377.out 0
   have hfz31_1 := blk_frozen BK377.out 1
   have hfz31_2 := blk_frozen BK377.out 2
   have hfz31_3 := blk_frozen BK377.out 3
   try go_wp2
   refine bodyPost_ret (results_ct rfl _ _ gb377 25 #[.int .i64 0, .int .i64 0, .int .i64 0, .int .i64 0] (0, 0) _ rfl (by (with_reducible repeat (first | refine blk_drewN ?_ _ | refine blk_drew ?_ | refine blk_alloc ?_ _)); refine blk_put (cs := #[.int .i64 0, .int .i64 0, .int .i64 0, .int .i64 0]) ?_ 3 _ rfl; (with_reducible repeat (first | refine blk_drewN ?_ _ | refine blk_drew ?_ | refine blk_alloc ?_ _)); refine blk_put (cs := #[.int .i64 0, .int .i64 0, .int .i64 0, .int .i64 0]) ?_ 2 _ rfl; (with_reducible repeat (first | refine blk_drewN ?_ _ | refine blk_drew ?_ | refine blk_alloc ?_ _)); refine blk_put (cs := #[.int .i64 0, .int .i64 0, .int .i64 0, .int .i64 0]) ?_ 1 _ rfl; (with_reducible repeat (first | refine blk_drewN ?_ _ | refine blk_drew ?_ | refine blk_alloc ?_ _)); refine blk_put (cs := #[.int .i64 0, .int .i64 0, .int .i64 0, .int .i64 0]) ?_ 0 _ rfl; (with_reducible repeat (first | refine blk_drewN ?_ _ | refine blk_drew ?_ | refine blk_alloc ?_ _)); exact BK377.out) Tryz.underlying25 rfl (by kernel_rfl)) rfl ?_
   exact ⟨by first | rfl | (simp [errW_none, errW_some] <;> rfl) | (simp [*, errW_none, errW_some] <;> rfl), by repeat (first | (with_reducible first | exact HB.out | apply below_alloc | apply pw_below_drewN | apply below_drew1 | refine below_set ?_ GE377.out) | exact HB.out)⟩
 ·
  replace c3 := Bool.eq_false_iff.mpr c3
  subst c3
  rw [if_neg (show ¬ (false = true) by decide)] at H
  simp only [Option.some.injEq, Prod.mk.injEq] at H
  obtain ⟨rfl, rfl, rfl, rfl, rfl⟩ := H
  go_enter Tryz.func29, Tryz.ntmps29
  try go_wp2_with (first | ((with_reducible refine gate_dst (N := 2) rfl ?_); (try (refine gate_guard (by rfl) ?_; dsimp only)); refine box_event ?hg (N := 2) ?hd (cs := #[.int .i64 0, .int .i64 0, .int .i64 0, .int .i64 0]) (t := 25) ?hr ?_; (case hd => rfl); (case hg => rfl); (case hr => first | (go_simp; done) | (go_simp; rfl)); intro gb377 hg w32 hbox hb; have n0_ := Aside0.mk (below_step bw_ hb); have n1_ := Aside0.mk (hbox); have n2_ := Aside0.mk ((by rw [hg]; exact (below_size bw_) : w.heap.size ≤ gb377)); have n3_ := Aside0.mk ((by rw [hg]; exact (below_size bw_) : w.heap.size ≤ gb377)); clear HB; have HB := n0_; have BK377 := n1_; have GW377 := n2_; have GE377 := n3_; clear n0_ n1_ n2_ n3_; clear hb hbox hg) | ((with_reducible refine gate_callee (f := 45) rfl ?_); refine goesL_ (some 8) rfl rfl Tryz.func45 (by kernel_rfl) rfl #[.string a0, .string (⟨#[45]⟩ : ByteArray)] rfl (by (try simp only [List.map_toArray, List.map_cons, List.map_nil]); first | done | rfl | (simp only [List.length_drop, List.length_take]; rfl)) ?_; (with_reducible refine (impl_readNumbers.calls k a0 (⟨#[45]⟩ : ByteArray) t378 false _ A2.out).mono ?_); rintro e w33 ⟨v380, rfl, ho0, hb⟩; refine ⟨_, rfl, ?_⟩; have n0_ := Aside0.mk (Kd.R_lower ho0 (below_size bw_)); have n1_ := Aside0.mk (blk_below (g := gb377) (o := .cells #[.int .i64 0, .int .i64 0, .int .i64 0, .int .i64 0] 25 (0, 0)) bk_ hb); have n2_ := Aside0.mk (below_step bw_ hb); clear BK377; clear HB; have HO381 := n0_; have BK377 := n1_; have HB := n2_; clear n0_ n1_ n2_; (try clear hb); (try clear hb2); (try clear hk); (try clear hi); (try clear ho0)))
  have n0_ := Aside0.mk (Kd.R_drew HO381.out)
  have n1_ := Aside0.mk (blk_drew BK377.out)
  have n2_ := Aside0.mk (below_drew1 HB.out)
  clear HO381
  clear BK377
  clear HB
  have HO381 := n0_
  have BK377 := n1_
  have HB := n2_
  clear n0_ n1_ n2_
  refine start_ (n := 24) (S := fun w' => True) (ds := []) #[false, false, false, false, false, false, false, false, false, false, false, false, false, false, false, false, false, false, false, false, false, false, false, false] (by kernel_rfl) rfl rfl trivial (fun hHeld => ?_); refine with_tabW impl_ParseChase.tab2 impl_ParseChase.bits2 (fun HT_ HW_ => ?_)
  generalize w33.drew = w34 at HO381 BK377 HB hHeld ⊢
  refine pu_ 0 11 24 1 ?_
  refine pu_ 1 12 24 3 ?_
  refine pu_ 2 13 24 7 ?_
  refine po_ 3 14 24 15 ?_
  refine po_ 4 15 24 31 ?_
  refine po_ 5 16 24 63 ?_
  refine pu_ 6 17 24 127 ?_
  refine pu_ 7 18 24 255 ?_
  refine po_ 8 19 24 511 ?_
  refine po_ 9 20 24 1023 ?_
  refine po_ 10 21 24 2047 ?_
  refine po_ 11 22 24 4095 ?_
  refine po_ 12 23 24 8191 ?_
  refine po_ 13 24 24 16383 ?_
  refine po_ 14 25 24 32767 ?_
  refine po_ 15 26 24 65535 ?_
  refine po_ 16 27 24 131071 ?_
  refine po_ 17 28 24 262143 ?_
  refine po_ 18 29 24 524287 ?_
  refine po_ 19 30 24 1048575 ?_
  refine po_ 20 31 24 2097151 ?_
  refine po_ 21 32 24 4194303 ?_
  refine po_ 22 33 24 8388607 ?_
  refine pu_ 23 34 24 16777215 ?_
  refine done_ (done_of HT_.out (by kernel_rfl)) ?_
  have hcz35_0 : w34.cell? ⟨gb377, 0, none⟩ = some (.int .i64 0) := (blk_cell BK377.out 0).trans rfl
  have hcz35_1 : w34.cell? ⟨gb377, 1, none⟩ = some (.int .i64 0) := (blk_cell BK377.out 1).trans rfl
  have hcz35_2 : w34.cell? ⟨gb377, 2, none⟩ = some (.int .i64 0) := (blk_cell BK377.out 2).trans rfl
  have hcz35_3 : w34.cell? ⟨gb377, 3, none⟩ = some (.int .i64 0) := (blk_cell BK377.out 3).trans rfl
  have hfz35_0 := blk_frozen BK377.out 0
  have hfz35_1 := blk_frozen BK377.out 1
  have hfz35_2 := blk_frozen BK377.out 2
  have hfz35_3 := blk_frozen BK377.out 3
  try go_wp2
  refine bodyPost_ret (results_ct rfl _ _ gb377 25 #[.int .i64 0, .int .i64 0, .int .i64 0, .int .i64 0] (0, 0) _ rfl (by (with_reducible repeat (first | refine blk_drewN ?_ _ | refine blk_drew ?_ | refine blk_alloc ?_ _)); refine blk_put (cs := #[.int .i64 0, .int .i64 0, .int .i64 0, .int .i64 0]) ?_ 3 _ rfl; (with_reducible repeat (first | refine blk_drewN ?_ _ | refine blk_drew ?_ | refine blk_alloc ?_ _)); refine blk_put (cs := #[.int .i64 0, .int .i64 0, .int .i64 0, .int .i64 0]) ?_ 2 _ rfl; (with_reducible repeat (first | refine blk_drewN ?_ _ | refine blk_drew ?_ | refine blk_alloc ?_ _)); refine blk_put (cs := #[.int .i64 0, .int .i64 0, .int .i64 0, .int .i64 0]) ?_ 1 _ rfl; (with_reducible repeat (first | refine blk_drewN ?_ _ | refine blk_drew ?_ | refine blk_alloc ?_ _)); refine blk_put (cs := #[.int .i64 0, .int .i64 0, .int .i64 0, .int .i64 0]) ?_ 0 _ rfl; (with_reducible repeat (first | refine blk_drewN ?_ _ | refine blk_drew ?_ | refine blk_alloc ?_ _)); exact BK377.out) Tryz.underlying25 rfl (by kernel_rfl)) rfl ?_
  exact ⟨by first | rfl | (simp [errW_none, errW_some] <;> rfl) | (simp [*, errW_none, errW_some] <;> rfl), by repeat (first | (with_reducible first | exact HB.out | apply below_alloc | apply pw_below_drewN | apply below_drew1 | refine below_set ?_ GE377.out) | exact HB.out)⟩

end Go.Proofs.YtajlcomankjcjabGreatDoor.PFnDogsTurn
