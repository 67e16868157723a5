-- Laid by a program of this session's (wip/gen/printp.sh): the functions that the law reaches, each with its walk.
import Derived.Test.YtajlcomankjcjadGreatDoorPFnDogsChasex0
import Derived.Test.YtajlcomankjcjadGreatDoorPFnDogsChasex6
import Derived.Test.YtajlcomankjcjadGreatDoorPFnDogsChasex12
namespace Go.Proofs.YtajlcomankjcjadGreatDoor.PFnDogsChase
open Go.RowKit Go.Proofs.YtajlcomankjcjadGreatDoorW.PrintWords Go.Proofs.YtajlcomankjcjadGreatDoorW.PrintLast Go.Proofs.YtajlcomankjcjadGreatDoorW.PrintMore
attribute [local go_sem] max2_int min2_int max_two min_two max_three min_three max_four min_four   -- for this text's walks alone
set_option linter.unusedVariables false
set_option linter.unusedSimpArgs false

/-! ### impl_ParseChase: function 24 -/
def impl_ParseChase.f (k : Nat) (a0 : ByteArray) : Option (Int × Int × Int × Int × Bool) := (impl_readNumbers.f k a0 (⟨#[45]⟩ : ByteArray)).bind fun bt466 => (if bt466.2 = true then (if (bt466.1.length : Int) = 4 then (if 0 < (bt466.1.length : Int) then (if 1 < (bt466.1.length : Int) then (if 2 < (bt466.1.length : Int) then (if 3 < (bt466.1.length : Int) then ((impl_IsChase.f (rd bt466.1 0) (rd bt466.1 1) (rd bt466.1 2) (rd bt466.1 3)).bind fun t474 => (if t474 = true then (some (rd bt466.1 0, rd bt466.1 1, rd bt466.1 2, rd bt466.1 3, true)) else (some (0, 0, 0, 0, false)))) else (none)) else (none)) else (none)) else (none)) else (some (0, 0, 0, 0, false))) else (some (0, 0, 0, 0, false)))

def impl_ParseChase.T2 : Bool × List (List Nat × List Nat) := (true, [([], []), ([0], [0]), ([1], [1]), ([2], [2]), ([3, 2], [2, 3]), ([4, 2], [2, 4]), ([2, 5], [2, 5]), ([6, 2], [6]), ([7], [7]), ([8, 7], [7, 8]), ([9, 7], [7, 9]), ([7], [7]), ([11, 7], [7, 11]), ([12, 7], [7, 12]), ([7], [7]), ([14, 7], [7, 14]), ([15, 7], [7, 15]), ([7], [7]), ([17, 7], [7, 17]), ([18, 7], [7, 18]), ([10, 13, 16, 19, 7], [7, 10, 13, 16, 19]), ([20, 7, 7], [7, 20]), ([21, 7], [7, 21]), ([7, 22], [7, 22])])
def impl_ParseChase.B2 : List Nat := [0, 1, 3, 7, 15, 31, 63, 127, 255, 511, 1023, 255, 2303, 6399, 255, 16639, 49407, 255, 131327, 393471, 1048575, 2097151, 4194303, 8388607]
theorem impl_ParseChase.tab2 : rtab .any (opsOf Tryz.f24 2) = impl_ParseChase.T2 := by kernel_rfl
theorem impl_ParseChase.bits2 : waitsOk impl_ParseChase.T2.2 impl_ParseChase.B2 = true := by kernel_rfl
def impl_ParseChase.T4 : Bool × List (List Nat × List Nat) := (true, [([], []), ([0], [0]), ([1], [1]), ([], []), ([3], [3]), ([4], [4]), ([], []), ([6], [6]), ([7], [7]), ([], []), ([9], [9]), ([10], [10]), ([2, 5, 8, 11], [2, 5, 8, 11]), ([12, 0, 1, 2, 3, 4, 5, 6, 7, 8, 9, 10, 11, 12], [12]), ([13, 0, 1, 2, 3, 4, 5, 6, 7, 8, 9, 10, 11, 12, 13], [])])
def impl_ParseChase.B4 : List Nat := [0, 1, 3, 0, 8, 24, 0, 64, 192, 0, 512, 1536, 4095, 8191, 16383]
theorem impl_ParseChase.tab4 : rtab .any (opsOf Tryz.f24 4) = impl_ParseChase.T4 := by kernel_rfl
theorem impl_ParseChase.bits4 : waitsOk impl_ParseChase.T4.2 impl_ParseChase.B4 = true := by kernel_rfl
set_option maxHeartbeats 8000000 in
set_option maxRecDepth 100000 in
theorem impl_ParseChase.calls (k : Nat) (a0 : ByteArray) (r1 : Int) (r2 : Int) (r3 : Int) (r4 : Int) (r5 : Bool) (w : World) (h : impl_ParseChase.f k a0 = some (r1, r2, r3, r4, r5)) (hL0 : LaidA w := by first | (with_reducible exact hL0) | exact LaidA.below hL0 (by repeat (first | (with_reducible first | exact HB.out | apply below_alloc | apply pw_below_drewN | apply below_drew1 | refine below_set ?_ (Nat.le_refl _) | refine below_set ?_ (Aside0.out (by assumption))) | exact HB.out | exact Below.refl _ _))) :
  Calls Tryz.prog 24 #[.string a0] w fun e w' => e = .returned (.tuple #[.agg #[.int .i64 r1, .int .i64 r2, .int .i64 r3, .int .i64 r4], .bool r5]) ∧ Below w.heap.size w w' := by
 have hu25 := Tryz.underlying25
 have HB := Aside0.mk (Below.refl w.heap.size w)
 have H := h
 unfold impl_ParseChase.f at H
 clear h
 replace H := Option.bind_eq_some_iff.mp H
 obtain ⟨⟨t466, t467⟩, A20, H⟩ := H
 (try dsimp only at H)
 have A2 := Aside0.mk A20
 clear A20
 by_cases c3 : t467 = true
 ·
  subst c3
  rw [if_pos rfl] at H
  by_cases c4 : (t466.length : Int) = 4
  ·
   rw [if_pos c4] at H
   have c4b0 : ((t466.length : Int) == 4) = true := beq_iff_eq.mpr c4
   have c4b1 : ((t466.length : Int) != 4) = false := bne_eq_false_iff_eq.mpr c4
   clear c4
   by_cases c5 : 0 < (t466.length : Int)
   ·
    rw [if_pos c5] at H
    have c5b0 : decide (0 < (t466.length : Int)) = true := decide_eq_true c5
    have c5b1 : decide (0 < t466.length) = true := decide_eq_true (by omega)
    clear c5
    by_cases c6 : 1 < (t466.length : Int)
    ·
     rw [if_pos c6] at H
     have c6b0 : decide (1 < (t466.length : Int)) = true := decide_eq_true c6
     have c6b1 : decide (1 < t466.length) = true := decide_eq_true (by omega)
     clear c6
     by_cases c7 : 2 < (t466.length : Int)
     ·
      rw [if_pos c7] at H
      have c7b0 : decide (2 < (t466.length : Int)) = true := decide_eq_true c7
      have c7b1 : decide (2 < t466.length) = true := decide_eq_true (by omega)
      clear c7
      by_cases c8 : 3 < (t466.length : Int)
      ·
       rw [if_pos c8] at H
       have c8b0 : decide (3 < (t466.length : Int)) = true := decide_eq_true c8
       have c8b1 : decide (3 < t466.length) = true := decide_eq_true (by omega)
       clear c8
       replace H := Option.bind_eq_some_iff.mp H
       obtain ⟨t474, A90, H⟩ := H
       (try dsimp only at H)
       have A9 := Aside0.mk A90
       clear A90
       by_cases c10 : t474 = true
       ·
        subst c10
        rw [if_pos rfl] at H
        simp only [Option.some.injEq, Prod.mk.injEq] at H
        obtain ⟨rfl, rfl, rfl, rfl, rfl⟩ := H
        go_enter Tryz.func24, Tryz.ntmps24
        try go_wp2_with (first | ((with_reducible refine gate_dst (N := 2) rfl ?_); (try (refine gate_guard (by rfl) ?_; dsimp only)); refine be_ 2 #[.int .i64 0, .int .i64 0, .int .i64 0, .int .i64 0] 25 ?_; intro gb465 hg w11 hbox hb; have n0_ := Aside0.mk (below_step bw_ hb); have n1_ := Aside0.mk (hbox); have n2_ := Aside0.mk (bz_ (w := w) hg); have n3_ := Aside0.mk (bz_ (w := w) hg); clear HB; have HB := n0_; have BK465 := n1_; have GW465 := n2_; have GE465 := n3_; clear n0_ n1_ n2_ n3_; clear hb hbox hg) | ((with_reducible refine gate_callee (f := 51) rfl ?_); refine gl_ (some 8) Tryz.func51 #[.string a0, .string (⟨#[45]⟩ : ByteArray)] ?_; (with_reducible refine (impl_readNumbers.calls k a0 (⟨#[45]⟩ : ByteArray) t466 true _ A2.out).mono ?_); rintro e w12 ⟨v468, rfl, ho0, hb⟩; refine ⟨_, rfl, ?_⟩; have n0_ := Aside0.mk (Kd.R_lower ho0 (below_size bw_)); have n1_ := Aside0.mk (bb_ BK465.out hb); have n2_ := Aside0.mk (below_step bw_ hb); clear BK465; clear HB; have HO469 := n0_; have BK465 := n1_; have HB := n2_; clear n0_ n1_ n2_; (try clear hb); (try clear hb2); (try clear hk); (try clear hi); (try clear ho0)))
        have n0_ := Aside0.mk (Kd.R_drew HO469.out)
        have n1_ := Aside0.mk (blk_drew BK465.out)
        have n2_ := Aside0.mk (below_drew1 HB.out)
        clear HO469
        clear BK465
        clear HB
        have HO469 := n0_
        have BK465 := n1_
        have HB := n2_
        clear n0_ n1_ n2_
        obtain ⟨Ao14, co14, eo14⟩ := Kd.R_slice HO469.out
        (first | subst eo14 | (injection eo14 with f1_ f2_ f3_; have f4_ := f1_.symm; have f5_ := f3_.symm; clear f1_ f2_ f3_; subst f4_; subst f5_))
        have p470 : 0 ≤ (0 : Int) := (by omega)
        have q470 : 0 < (t466.length : Int) := of_decide_eq_true (by first | (with_reducible assumption) | assumption)
        obtain ⟨ad470, e470, hx470_0⟩ := Kd.at_int (Kd.R_reads' HO469.out).2.2 0 p470 q470
        cases e470
        have qi470 : (0 < t466.length) = True := eq_true (by omega)
        (try rw [show ((0 : Int)).toNat = 0 from rfl] at hx470_0)
        (try rw [Addr.add_zero'] at hx470_0)
        replace p470 := eq_true p470
        replace q470 := eq_true q470
        have p471 : 0 ≤ (1 : Int) := (by omega)
        have q471 : 1 < (t466.length : Int) := of_decide_eq_true (by first | (with_reducible assumption) | assumption)
        obtain ⟨ad471, e471, hx471_0⟩ := Kd.at_int (Kd.R_reads' HO469.out).2.2 1 p471 q471
        obtain rfl : ad470 = ad471 := (by injection e471)
        (try simp only [show (1 : Int).toNat = 1 from rfl, Nat.reduceMul, Nat.reduceEqDiff, Go.Addr.add, ↓reduceIte] at hx471_0)
        have qi471 : (1 < t466.length) = True := eq_true (by omega)
        (try rw [show ((1 : Int)).toNat = 1 from rfl] at hx471_0)
        replace p471 := eq_true p471
        replace q471 := eq_true q471
        have p472 : 0 ≤ (2 : Int) := (by omega)
        have q472 : 2 < (t466.length : Int) := of_decide_eq_true (by first | (with_reducible assumption) | assumption)
        obtain ⟨ad472, e472, hx472_0⟩ := Kd.at_int (Kd.R_reads' HO469.out).2.2 2 p472 q472
        obtain rfl : ad470 = ad472 := (by injection e472)
        (try simp only [show (2 : Int).toNat = 2 from rfl, Nat.reduceMul, Nat.reduceEqDiff, Go.Addr.add, ↓reduceIte] at hx472_0)
        have qi472 : (2 < t466.length) = True := eq_true (by omega)
        (try rw [show ((2 : Int)).toNat = 2 from rfl] at hx472_0)
        replace p472 := eq_true p472
        replace q472 := eq_true q472
        have p473 : 0 ≤ (3 : Int) := (by omega)
        have q473 : 3 < (t466.length : Int) := of_decide_eq_true (by first | (with_reducible assumption) | assumption)
        obtain ⟨ad473, e473, hx473_0⟩ := Kd.at_int (Kd.R_reads' HO469.out).2.2 3 p473 q473
        obtain rfl : ad470 = ad473 := (by injection e473)
        (try simp only [show (3 : Int).toNat = 3 from rfl, Nat.reduceMul, Nat.reduceEqDiff, Go.Addr.add, ↓reduceIte] at hx473_0)
        have qi473 : (3 < t466.length) = True := eq_true (by omega)
        (try rw [show ((3 : Int)).toNat = 3 from rfl] at hx473_0)
        replace p473 := eq_true p473
        replace q473 := eq_true q473
        refine start_ (n := 24) (S := fun w' => w'.cell? ad470 = some (.int .i64 (rd t466 0)) ∧ w'.cell? ⟨ad470.block, ad470.off + 1, none⟩ = some (.int .i64 (rd t466 1)) ∧ w'.cell? ⟨ad470.block, ad470.off + 2, none⟩ = some (.int .i64 (rd t466 2)) ∧ w'.cell? ⟨ad470.block, ad470.off + 3, none⟩ = some (.int .i64 (rd t466 3))) (ds := []) #[false, false, false, false, false, false, false, false, false, false, false, false, false, false, false, false, false, false, false, false, false, false, false, false] (by kernel_rfl) rfl rfl ⟨hx470_0, hx471_0, hx472_0, hx473_0⟩ (fun hHeld => ?_); refine with_tabW impl_ParseChase.tab2 impl_ParseChase.bits2 (fun HT_ HW_ => ?_)
        generalize w12.drew = w13 at HO469 BK465 HB hx470_0 hx471_0 hx472_0 hx473_0 hHeld ⊢
        refine pu_ 0 11 24 1 ?_
        refine pu_ 1 12 24 3 ?_
        refine pu_ 2 13 24 7 ?_
        refine pu_ 3 14 24 15 ?_
        refine pu_ 4 15 24 31 ?_
        refine pu_ 5 16 24 63 ?_
        refine pu_ 6 17 24 127 ?_
        refine pu_ 7 18 24 255 ?_
        refine pu_ 8 19 24 511 ?_
        refine pu_ 9 20 24 1023 ?_
        refine pu_ 11 22 24 3071 ?_
        refine pu_ 12 23 24 7167 ?_
        refine pu_ 14 25 24 23551 ?_
        refine pu_ 15 26 24 56319 ?_
        refine pu_ 17 28 24 187391 ?_
        refine pu_ 18 29 24 449535 ?_
        refine tk_ 10 21 24 450559 hHeld ?_
        refine tk_ 13 24 24 458751 hHeld ?_
        refine tk_ 16 27 24 524287 hHeld ?_
        refine tk_ 19 30 24 1048575 hHeld ?_
        refine pu_ 20 31 24 2097151 ?_
        refine one_ (i := 21) (N := some 32) (pm_ 24 4194303) rfl rfl (one_of HT_.out (by kernel_rfl)) (by decide) (fun K hK => ?_)
        refine goes_ Tryz.func39 (by kernel_rfl) rfl #[.agg #[.int .i64 (rd t466 0), .int .i64 (rd t466 1), .int .i64 (rd t466 2), .int .i64 (rd t466 3)]] (by rfl) rfl rfl (by (try simp only [List.map_toArray, List.map_cons, List.map_nil]); first | done | rfl | (simp only [List.length_drop, List.length_take]; rfl)) ?_
        with_reducible refine (impl_IsChase.calls (rd t466 0) (rd t466 1) (rd t466 2) (rd t466 3) true _ A9.out).mono ?_
        rintro e w15 ⟨rfl, hb⟩
        have HS0_ := (hb.cell (World.block_lt_of_cell? _ _ (hHeld.1))).trans (hHeld.1)
        have HS1_ := (hb.cell (World.block_lt_of_cell? _ _ (hHeld.2.1))).trans (hHeld.2.1)
        have HS2_ := (hb.cell (World.block_lt_of_cell? _ _ (hHeld.2.2.1))).trans (hHeld.2.2.1)
        have HS3_ := (hb.cell (World.block_lt_of_cell? _ _ (hHeld.2.2.2))).trans (hHeld.2.2.2)
        refine ⟨_, rfl, ?_⟩
        have n0_ := Aside0.mk (Kd.R_below (by (with_reducible repeat (first | apply Kd.R_alloc | apply Kd.R_drewN | apply Kd.R_drew)); exact HO469.out) hb)
        have n1_ := Aside0.mk (bb_ BK465.out hb)
        have n2_ := Aside0.mk (below_step bw_ hb)
        clear HO469
        clear BK465
        clear HB
        have HO469 := n0_
        have BK465 := n1_
        have HB := n2_
        clear n0_ n1_ n2_
        (try clear hb)
        (try clear hb2)
        (try clear hk)
        (try clear hi)
        refine hK.out _ _ ⟨HS0_, HS1_, HS2_, HS3_⟩ (fun hHeld => ?_)
        clear hK K
        refine norm_ (a' := ?_) ?_ ?_
        rotate_left
        ·
         show Act.put _ (some 32) _ = _
         simp only [Act.put, List.setIfInBounds_toArray, List.set_cons_zero, List.set_cons_succ, i64_w, i32_w]
         rfl
        refine pu_ 22 33 24 8388607 ?_
        refine pu_ 23 34 24 16777215 ?_
        refine done_ (done_of HT_.out (by kernel_rfl)) ?_
        try go_wp2
        have n0_ := Aside0.mk (Kd.R_drew HO469.out)
        have n1_ := Aside0.mk (blk_drew BK465.out)
        have n2_ := Aside0.mk (below_drew1 HB.out)
        clear HO469
        clear BK465
        clear HB
        have HO469 := n0_
        have BK465 := n1_
        have HB := n2_
        clear n0_ n1_ n2_
        have p475 : 0 ≤ (0 : Int) := (by omega)
        have q475 : 0 < (t466.length : Int) := of_decide_eq_true (by first | (with_reducible assumption) | assumption)
        obtain ⟨ad475, e475, hx475_0⟩ := Kd.at_int (Kd.R_reads' HO469.out).2.2 0 p475 q475
        obtain rfl : ad470 = ad475 := (by injection e475)
        have qi475 : (0 < t466.length) = True := eq_true (by omega)
        (try rw [show ((0 : Int)).toNat = 0 from rfl] at hx475_0)
        (try rw [Addr.add_zero'] at hx475_0)
        replace p475 := eq_true p475
        replace q475 := eq_true q475
        have p476 : 0 ≤ (1 : Int) := (by omega)
        have q476 : 1 < (t466.length : Int) := of_decide_eq_true (by first | (with_reducible assumption) | assumption)
        obtain ⟨ad476, e476, hx476_0⟩ := Kd.at_int (Kd.R_reads' HO469.out).2.2 1 p476 q476
        obtain rfl : ad470 = ad476 := (by injection e476)
        (try simp only [show (1 : Int).toNat = 1 from rfl, Nat.reduceMul, Nat.reduceEqDiff, Go.Addr.add, ↓reduceIte] at hx476_0)
        have qi476 : (1 < t466.length) = True := eq_true (by omega)
        (try rw [show ((1 : Int)).toNat = 1 from rfl] at hx476_0)
        replace p476 := eq_true p476
        replace q476 := eq_true q476
        have p477 : 0 ≤ (2 : Int) := (by omega)
        have q477 : 2 < (t466.length : Int) := of_decide_eq_true (by first | (with_reducible assumption) | assumption)
        obtain ⟨ad477, e477, hx477_0⟩ := Kd.at_int (Kd.R_reads' HO469.out).2.2 2 p477 q477
        obtain rfl : ad470 = ad477 := (by injection e477)
        (try simp only [show (2 : Int).toNat = 2 from rfl, Nat.reduceMul, Nat.reduceEqDiff, Go.Addr.add, ↓reduceIte] at hx477_0)
        have qi477 : (2 < t466.length) = True := eq_true (by omega)
        (try rw [show ((2 : Int)).toNat = 2 from rfl] at hx477_0)
        replace p477 := eq_true p477
        replace q477 := eq_true q477
        have p478 : 0 ≤ (3 : Int) := (by omega)
        have q478 : 3 < (t466.length : Int) := of_decide_eq_true (by first | (with_reducible assumption) | assumption)
        obtain ⟨ad478, e478, hx478_0⟩ := Kd.at_int (Kd.R_reads' HO469.out).2.2 3 p478 q478
        obtain rfl : ad470 = ad478 := (by injection e478)
        (try simp only [show (3 : Int).toNat = 3 from rfl, Nat.reduceMul, Nat.reduceEqDiff, Go.Addr.add, ↓reduceIte] at hx478_0)
        have qi478 : (3 < t466.length) = True := eq_true (by omega)
        (try rw [show ((3 : Int)).toNat = 3 from rfl] at hx478_0)
        replace p478 := eq_true p478
        replace q478 := eq_true q478
        refine start_ (n := 15) (S := fun w' => w'.cell? ad470 = some (.int .i64 (rd t466 0)) ∧ w'.cell? ⟨ad470.block, ad470.off + 1, none⟩ = some (.int .i64 (rd t466 1)) ∧ w'.cell? ⟨ad470.block, ad470.off + 2, none⟩ = some (.int .i64 (rd t466 2)) ∧ w'.cell? ⟨ad470.block, ad470.off + 3, none⟩ = some (.int .i64 (rd t466 3))) (ds := []) #[false, false, false, false, false, false, false, false, false, false, false, false, false, false, false] (by kernel_rfl) rfl rfl ⟨hx475_0, hx476_0, hx477_0, hx478_0⟩ (fun hHeld => ?_); refine with_tabW impl_ParseChase.tab4 impl_ParseChase.bits4 (fun HT_ HW_ => ?_)
        generalize w15.drew = w16 at HO469 BK465 HB hx475_0 hx476_0 hx477_0 hx478_0 hHeld ⊢
        refine pu_ 0 36 15 1 ?_
        refine pu_ 1 37 15 3 ?_
        refine pu_ 3 39 15 11 ?_
        refine pu_ 4 40 15 27 ?_
        refine pu_ 6 42 15 91 ?_
        refine pu_ 7 43 15 219 ?_
        refine pu_ 9 45 15 731 ?_
        refine pu_ 10 46 15 1755 ?_
        refine tk_ 2 38 15 1759 hHeld ?_
        refine tk_ 5 41 15 1791 hHeld ?_
        refine tk_ 8 44 15 2047 hHeld ?_
        refine tk_ 11 47 15 4095 hHeld ?_
        refine pu_ 12 48 15 8191 ?_
        refine one_ (i := 13) (N := none) (pm_ 15 16383) rfl rfl (one_of HT_.out (by kernel_rfl)) (by decide) (fun K hK => ?_)
        have hs17 : w16.cell? ⟨gb465, 0, none⟩ = some (.int .i64 0) := (blk_cell BK465.out 0).trans rfl
        have hfs17 := blk_frozen BK465.out 0
        have hs18 : w16.cell? ⟨gb465, 1, none⟩ = some (.int .i64 0) := (blk_cell BK465.out 1).trans rfl
        have hfs18 := blk_frozen BK465.out 1
        have hs19 : w16.cell? ⟨gb465, 2, none⟩ = some (.int .i64 0) := (blk_cell BK465.out 2).trans rfl
        have hfs19 := blk_frozen BK465.out 2
        have hs20 : w16.cell? ⟨gb465, 3, none⟩ = some (.int .i64 0) := (blk_cell BK465.out 3).trans rfl
        have hfs20 := blk_frozen BK465.out 3
        refine skip_ (w1 := ?_) (by rfl) rfl ?_ ?_
        rotate_left
        ·
         go_simp
         rfl
        refine hK.out _ _ ⟨((cell_far (p := ⟨gb465, _, none⟩) (by first | exact Kd.own_blk (Kd.R_ne HO469.out BK465.out (by decide)) | (rw [add_block]; exact Kd.own_blk (Kd.R_ne HO469.out BK465.out (by decide))) | (show (Addr.add _ _).block ≠ _; rw [add_block]; exact Kd.own_blk (Kd.R_ne HO469.out BK465.out (by decide))) | (dsimp only; exact Kd.own_blk (Kd.R_ne HO469.out BK465.out (by decide)))) _).trans (((cell_far (p := ⟨gb465, _, none⟩) (by first | exact Kd.own_blk (Kd.R_ne HO469.out BK465.out (by decide)) | (rw [add_block]; exact Kd.own_blk (Kd.R_ne HO469.out BK465.out (by decide))) | (show (Addr.add _ _).block ≠ _; rw [add_block]; exact Kd.own_blk (Kd.R_ne HO469.out BK465.out (by decide))) | (dsimp only; exact Kd.own_blk (Kd.R_ne HO469.out BK465.out (by decide)))) _).trans (((cell_far (p := ⟨gb465, _, none⟩) (by first | exact Kd.own_blk (Kd.R_ne HO469.out BK465.out (by decide)) | (rw [add_block]; exact Kd.own_blk (Kd.R_ne HO469.out BK465.out (by decide))) | (show (Addr.add _ _).block ≠ _; rw [add_block]; exact Kd.own_blk (Kd.R_ne HO469.out BK465.out (by decide))) | (dsimp only; exact Kd.own_blk (Kd.R_ne HO469.out BK465.out (by decide)))) _).trans (((cell_far (p := ⟨gb465, _, none⟩) (by first | exact Kd.own_blk (Kd.R_ne HO469.out BK465.out (by decide)) | (rw [add_block]; exact Kd.own_blk (Kd.R_ne HO469.out BK465.out (by decide))) | (show (Addr.add _ _).block ≠ _; rw [add_block]; exact Kd.own_blk (Kd.R_ne HO469.out BK465.out (by decide))) | (dsimp only; exact Kd.own_blk (Kd.R_ne HO469.out BK465.out (by decide)))) _).trans (hHeld.1)))))))), ((cell_far (p := ⟨gb465, _, none⟩) (by first | exact Kd.own_blk (Kd.R_ne HO469.out BK465.out (by decide)) | (rw [add_block]; exact Kd.own_blk (Kd.R_ne HO469.out BK465.out (by decide))) | (show (Addr.add _ _).block ≠ _; rw [add_block]; exact Kd.own_blk (Kd.R_ne HO469.out BK465.out (by decide))) | (dsimp only; exact Kd.own_blk (Kd.R_ne HO469.out BK465.out (by decide)))) _).trans (((cell_far (p := ⟨gb465, _, none⟩) (by first | exact Kd.own_blk (Kd.R_ne HO469.out BK465.out (by decide)) | (rw [add_block]; exact Kd.own_blk (Kd.R_ne HO469.out BK465.out (by decide))) | (show (Addr.add _ _).block ≠ _; rw [add_block]; exact Kd.own_blk (Kd.R_ne HO469.out BK465.out (by decide))) | (dsimp only; exact Kd.own_blk (Kd.R_ne HO469.out BK465.out (by decide)))) _).trans (((cell_far (p := ⟨gb465, _, none⟩) (by first | exact Kd.own_blk (Kd.R_ne HO469.out BK465.out (by decide)) | (rw [add_block]; exact Kd.own_blk (Kd.R_ne HO469.out BK465.out (by decide))) | (show (Addr.add _ _).block ≠ _; rw [add_block]; exact Kd.own_blk (Kd.R_ne HO469.out BK465.out (by decide))) | (dsimp only; exact Kd.own_blk (Kd.R_ne HO469.out BK465.out (by decide)))) _).trans (((cell_far (p := ⟨gb465, _, none⟩) (by first | exact Kd.own_blk (Kd.R_ne HO469.out BK465.out (by decide)) | (rw [add_block]; exact Kd.own_blk (Kd.R_ne HO469.out BK465.out (by decide))) | (show (Addr.add _ _).block ≠ _; rw [add_block]; exact Kd.own_blk (Kd.R_ne HO469.out BK465.out (by decide))) | (dsimp only; exact Kd.own_blk (Kd.R_ne HO469.out BK465.out (by decide)))) _).trans (hHeld.2.1)))))))), ((cell_far (p := ⟨gb465, _, none⟩) (by first | exact Kd.own_blk (Kd.R_ne HO469.out BK465.out (by decide)) | (rw [add_block]; exact Kd.own_blk (Kd.R_ne HO469.out BK465.out (by decide))) | (show (Addr.add _ _).block ≠ _; rw [add_block]; exact Kd.own_blk (Kd.R_ne HO469.out BK465.out (by decide))) | (dsimp only; exact Kd.own_blk (Kd.R_ne HO469.out BK465.out (by decide)))) _).trans (((cell_far (p := ⟨gb465, _, none⟩) (by first | exact Kd.own_blk (Kd.R_ne HO469.out BK465.out (by decide)) | (rw [add_block]; exact Kd.own_blk (Kd.R_ne HO469.out BK465.out (by decide))) | (show (Addr.add _ _).block ≠ _; rw [add_block]; exact Kd.own_blk (Kd.R_ne HO469.out BK465.out (by decide))) | (dsimp only; exact Kd.own_blk (Kd.R_ne HO469.out BK465.out (by decide)))) _).trans (((cell_far (p := ⟨gb465, _, none⟩) (by first | exact Kd.own_blk (Kd.R_ne HO469.out BK465.out (by decide)) | (rw [add_block]; exact Kd.own_blk (Kd.R_ne HO469.out BK465.out (by decide))) | (show (Addr.add _ _).block ≠ _; rw [add_block]; exact Kd.own_blk (Kd.R_ne HO469.out BK465.out (by decide))) | (dsimp only; exact Kd.own_blk (Kd.R_ne HO469.out BK465.out (by decide)))) _).trans (((cell_far (p := ⟨gb465, _, none⟩) (by first | exact Kd.own_blk (Kd.R_ne HO469.out BK465.out (by decide)) | (rw [add_block]; exact Kd.own_blk (Kd.R_ne HO469.out BK465.out (by decide))) | (show (Addr.add _ _).block ≠ _; rw [add_block]; exact Kd.own_blk (Kd.R_ne HO469.out BK465.out (by decide))) | (dsimp only; exact Kd.own_blk (Kd.R_ne HO469.out BK465.out (by decide)))) _).trans (hHeld.2.2.1)))))))), ((cell_far (p := ⟨gb465, _, none⟩) (by first | exact Kd.own_blk (Kd.R_ne HO469.out BK465.out (by decide)) | (rw [add_block]; exact Kd.own_blk (Kd.R_ne HO469.out BK465.out (by decide))) | (show (Addr.add _ _).block ≠ _; rw [add_block]; exact Kd.own_blk (Kd.R_ne HO469.out BK465.out (by decide))) | (dsimp only; exact Kd.own_blk (Kd.R_ne HO469.out BK465.out (by decide)))) _).trans (((cell_far (p := ⟨gb465, _, none⟩) (by first | exact Kd.own_blk (Kd.R_ne HO469.out BK465.out (by decide)) | (rw [add_block]; exact Kd.own_blk (Kd.R_ne HO469.out BK465.out (by decide))) | (show (Addr.add _ _).block ≠ _; rw [add_block]; exact Kd.own_blk (Kd.R_ne HO469.out BK465.out (by decide))) | (dsimp only; exact Kd.own_blk (Kd.R_ne HO469.out BK465.out (by decide)))) _).trans (((cell_far (p := ⟨gb465, _, none⟩) (by first | exact Kd.own_blk (Kd.R_ne HO469.out BK465.out (by decide)) | (rw [add_block]; exact Kd.own_blk (Kd.R_ne HO469.out BK465.out (by decide))) | (show (Addr.add _ _).block ≠ _; rw [add_block]; exact Kd.own_blk (Kd.R_ne HO469.out BK465.out (by decide))) | (dsimp only; exact Kd.own_blk (Kd.R_ne HO469.out BK465.out (by decide)))) _).trans (((cell_far (p := ⟨gb465, _, none⟩) (by first | exact Kd.own_blk (Kd.R_ne HO469.out BK465.out (by decide)) | (rw [add_block]; exact Kd.own_blk (Kd.R_ne HO469.out BK465.out (by decide))) | (show (Addr.add _ _).block ≠ _; rw [add_block]; exact Kd.own_blk (Kd.R_ne HO469.out BK465.out (by decide))) | (dsimp only; exact Kd.own_blk (Kd.R_ne HO469.out BK465.out (by decide)))) _).trans (hHeld.2.2.2))))))))⟩ (fun hHeld => ?_)
        clear hK K
        refine pu_ 14 3 15 32767 ?_
        refine done_ (done_of HT_.out (by kernel_rfl)) ?_
        try go_wp2
        refine bodyPost_ret (results_ct rfl _ _ gb465 25 #[.int .i64 (rd t466 0), .int .i64 (rd t466 1), .int .i64 (rd t466 2), .int .i64 (rd t466 3)] (0, 0) _ rfl (by (with_reducible repeat (first | refine blk_drewN ?_ _ | refine blk_drew ?_ | refine blk_alloc ?_ _)); refine blk_put (cs := #[.int .i64 (rd t466 0), .int .i64 (rd t466 1), .int .i64 (rd t466 2), .int .i64 0]) ?_ 3 _ rfl; (with_reducible repeat (first | refine blk_drewN ?_ _ | refine blk_drew ?_ | refine blk_alloc ?_ _)); refine blk_put (cs := #[.int .i64 (rd t466 0), .int .i64 (rd t466 1), .int .i64 0, .int .i64 0]) ?_ 2 _ rfl; (with_reducible repeat (first | refine blk_drewN ?_ _ | refine blk_drew ?_ | refine blk_alloc ?_ _)); refine blk_put (cs := #[.int .i64 (rd t466 0), .int .i64 0, .int .i64 0, .int .i64 0]) ?_ 1 _ rfl; (with_reducible repeat (first | refine blk_drewN ?_ _ | refine blk_drew ?_ | refine blk_alloc ?_ _)); refine blk_put (cs := #[.int .i64 0, .int .i64 0, .int .i64 0, .int .i64 0]) ?_ 0 _ rfl; (with_reducible repeat (first | refine blk_drewN ?_ _ | refine blk_drew ?_ | refine blk_alloc ?_ _)); exact BK465.out) Tryz.underlying25 rfl (by kernel_rfl)) rfl ?_
        exact ⟨rt_, bw_⟩
       ·
        replace c10 := Bool.eq_false_iff.mpr c10
        subst c10
        rw [if_neg (show ¬ (false = true) by decide)] at H
        simp only [Option.some.injEq, Prod.mk.injEq] at H
        obtain ⟨rfl, rfl, rfl, rfl, rfl⟩ := H
        go_enter Tryz.func24, Tryz.ntmps24
        try go_wp2_with (first | ((with_reducible refine gate_dst (N := 2) rfl ?_); (try (refine gate_guard (by rfl) ?_; dsimp only)); refine be_ 2 #[.int .i64 0, .int .i64 0, .int .i64 0, .int .i64 0] 25 ?_; intro gb465 hg w21 hbox hb; have n0_ := Aside0.mk (below_step bw_ hb); have n1_ := Aside0.mk (hbox); have n2_ := Aside0.mk (bz_ (w := w) hg); have n3_ := Aside0.mk (bz_ (w := w) hg); clear HB; have HB := n0_; have BK465 := n1_; have GW465 := n2_; have GE465 := n3_; clear n0_ n1_ n2_ n3_; clear hb hbox hg) | ((with_reducible refine gate_callee (f := 51) rfl ?_); refine gl_ (some 8) Tryz.func51 #[.string a0, .string (⟨#[45]⟩ : ByteArray)] ?_; (with_reducible refine (impl_readNumbers.calls k a0 (⟨#[45]⟩ : ByteArray) t466 true _ A2.out).mono ?_); rintro e w22 ⟨v468, rfl, ho0, hb⟩; refine ⟨_, rfl, ?_⟩; have n0_ := Aside0.mk (Kd.R_lower ho0 (below_size bw_)); have n1_ := Aside0.mk (bb_ BK465.out hb); have n2_ := Aside0.mk (below_step bw_ hb); clear BK465; clear HB; have HO469 := n0_; have BK465 := n1_; have HB := n2_; clear n0_ n1_ n2_; (try clear hb); (try clear hb2); (try clear hk); (try clear hi); (try clear ho0)))
        have n0_ := Aside0.mk (Kd.R_drew HO469.out)
        have n1_ := Aside0.mk (blk_drew BK465.out)
        have n2_ := Aside0.mk (below_drew1 HB.out)
        clear HO469
        clear BK465
        clear HB
        have HO469 := n0_
        have BK465 := n1_
        have HB := n2_
        clear n0_ n1_ n2_
        obtain ⟨Ao24, co24, eo24⟩ := Kd.R_slice HO469.out
        (first | subst eo24 | (injection eo24 with f1_ f2_ f3_; have f4_ := f1_.symm; have f5_ := f3_.symm; clear f1_ f2_ f3_; subst f4_; subst f5_))
        have p470 : 0 ≤ (0 : Int) := (by omega)
        have q470 : 0 < (t466.length : Int) := of_decide_eq_true (by first | (with_reducible assumption) | assumption)
        obtain ⟨ad470, e470, hx470_0⟩ := Kd.at_int (Kd.R_reads' HO469.out).2.2 0 p470 q470
        cases e470
        have qi470 : (0 < t466.length) = True := eq_true (by omega)
        (try rw [show ((0 : Int)).toNat = 0 from rfl] at hx470_0)
        (try rw [Addr.add_zero'] at hx470_0)
        replace p470 := eq_true p470
        replace q470 := eq_true q470
        have p471 : 0 ≤ (1 : Int) := (by omega)
        have q471 : 1 < (t466.length : Int) := of_decide_eq_true (by first | (with_reducible assumption) | assumption)
        obtain ⟨ad471, e471, hx471_0⟩ := Kd.at_int (Kd.R_reads' HO469.out).2.2 1 p471 q471
        obtain rfl : ad470 = ad471 := (by injection e471)
        (try simp only [show (1 : Int).toNat = 1 from rfl, Nat.reduceMul, Nat.reduceEqDiff, Go.Addr.add, ↓reduceIte] at hx471_0)
        have qi471 : (1 < t466.length) = True := eq_true (by omega)
        (try rw [show ((1 : Int)).toNat = 1 from rfl] at hx471_0)
        replace p471 := eq_true p471
        replace q471 := eq_true q471
        have p472 : 0 ≤ (2 : Int) := (by omega)
        have q472 : 2 < (t466.length : Int) := of_decide_eq_true (by first | (with_reducible assumption) | assumption)
        obtain ⟨ad472, e472, hx472_0⟩ := Kd.at_int (Kd.R_reads' HO469.out).2.2 2 p472 q472
        obtain rfl : ad470 = ad472 := (by injection e472)
        (try simp only [show (2 : Int).toNat = 2 from rfl, Nat.reduceMul, Nat.reduceEqDiff, Go.Addr.add, ↓reduceIte] at hx472_0)
        have qi472 : (2 < t466.length) = True := eq_true (by omega)
        (try rw [show ((2 : Int)).toNat = 2 from rfl] at hx472_0)
        replace p472 := eq_true p472
        replace q472 := eq_true q472
        have p473 : 0 ≤ (3 : Int) := (by omega)
        have q473 : 3 < (t466.length : Int) := of_decide_eq_true (by first | (with_reducible assumption) | assumption)
        obtain ⟨ad473, e473, hx473_0⟩ := Kd.at_int (Kd.R_reads' HO469.out).2.2 3 p473 q473
        obtain rfl : ad470 = ad473 := (by injection e473)
        (try simp only [show (3 : Int).toNat = 3 from rfl, Nat.reduceMul, Nat.reduceEqDiff, Go.Addr.add, ↓reduceIte] at hx473_0)
        have qi473 : (3 < t466.length) = True := eq_true (by omega)
        (try rw [show ((3 : Int)).toNat = 3 from rfl] at hx473_0)
        replace p473 := eq_true p473
        replace q473 := eq_true q473
        refine start_ (n := 24) (S := fun w' => w'.cell? ad470 = some (.int .i64 (rd t466 0)) ∧ w'.cell? ⟨ad470.block, ad470.off + 1, none⟩ = some (.int .i64 (rd t466 1)) ∧ w'.cell? ⟨ad470.block, ad470.off + 2, none⟩ = some (.int .i64 (rd t466 2)) ∧ w'.cell? ⟨ad470.block, ad470.off + 3, none⟩ = some (.int .i64 (rd t466 3))) (ds := []) #[false, false, false, false, false, false, false, false, false, false, false, false, false, false, false, false, false, false, false, false, false, false, false, false] (by kernel_rfl) rfl rfl ⟨hx470_0, hx471_0, hx472_0, hx473_0⟩ (fun hHeld => ?_); refine with_tabW impl_ParseChase.tab2 impl_ParseChase.bits2 (fun HT_ HW_ => ?_)
        generalize w22.drew = w23 at HO469 BK465 HB hx470_0 hx471_0 hx472_0 hx473_0 hHeld ⊢
        refine pu_ 0 11 24 1 ?_
        refine pu_ 1 12 24 3 ?_
        refine pu_ 2 13 24 7 ?_
        refine pu_ 3 14 24 15 ?_
        refine pu_ 4 15 24 31 ?_
        refine pu_ 5 16 24 63 ?_
        refine pu_ 6 17 24 127 ?_
        refine pu_ 7 18 24 255 ?_
        refine pu_ 8 19 24 511 ?_
        refine pu_ 9 20 24 1023 ?_
        refine pu_ 11 22 24 3071 ?_
        refine pu_ 12 23 24 7167 ?_
        refine pu_ 14 25 24 23551 ?_
        refine pu_ 15 26 24 56319 ?_
        refine pu_ 17 28 24 187391 ?_
        refine pu_ 18 29 24 449535 ?_
        refine tk_ 10 21 24 450559 hHeld ?_
        refine tk_ 13 24 24 458751 hHeld ?_
        refine tk_ 16 27 24 524287 hHeld ?_
        refine tk_ 19 30 24 1048575 hHeld ?_
        refine pu_ 20 31 24 2097151 ?_
        refine one_ (i := 21) (N := some 32) (pm_ 24 4194303) rfl rfl (one_of HT_.out (by kernel_rfl)) (by decide) (fun K hK => ?_)
        refine goes_ Tryz.func39 (by kernel_rfl) rfl #[.agg #[.int .i64 (rd t466 0), .int .i64 (rd t466 1), .int .i64 (rd t466 2), .int .i64 (rd t466 3)]] (by rfl) rfl rfl (by (try simp only [List.map_toArray, List.map_cons, List.map_nil]); first | done | rfl | (simp only [List.length_drop, List.length_take]; rfl)) ?_
        with_reducible refine (impl_IsChase.calls (rd t466 0) (rd t466 1) (rd t466 2) (rd t466 3) false _ A9.out).mono ?_
        rintro e w25 ⟨rfl, hb⟩
        have HS0_ := (hb.cell (World.block_lt_of_cell? _ _ (hHeld.1))).trans (hHeld.1)
        have HS1_ := (hb.cell (World.block_lt_of_cell? _ _ (hHeld.2.1))).trans (hHeld.2.1)
        have HS2_ := (hb.cell (World.block_lt_of_cell? _ _ (hHeld.2.2.1))).trans (hHeld.2.2.1)
        have HS3_ := (hb.cell (World.block_lt_of_cell? _ _ (hHeld.2.2.2))).trans (hHeld.2.2.2)
        refine ⟨_, rfl, ?_⟩
        have n0_ := Aside0.mk (Kd.R_below (by (with_reducible repeat (first | apply Kd.R_alloc | apply Kd.R_drewN | apply Kd.R_drew)); exact HO469.out) hb)
        have n1_ := Aside0.mk (bb_ BK465.out hb)
        have n2_ := Aside0.mk (below_step bw_ hb)
        clear HO469
        clear BK465
        clear HB
        have HO469 := n0_
        have BK465 := n1_
        have HB := n2_
        clear n0_ n1_ n2_
        (try clear hb)
        (try clear hb2)
        (try clear hk)
        (try clear hi)
        refine hK.out _ _ ⟨HS0_, HS1_, HS2_, HS3_⟩ (fun hHeld => ?_)
        clear hK K
        refine norm_ (a' := ?_) ?_ ?_
        rotate_left
        ·
         show Act.put _ (some 32) _ = _
         simp only [Act.put, List.setIfInBounds_toArray, List.set_cons_zero, List.set_cons_succ, i64_w, i32_w]
         rfl
        refine pu_ 22 33 24 8388607 ?_
        refine pu_ 23 34 24 16777215 ?_
        refine done_ (done_of HT_.out (by kernel_rfl)) ?_
        obtain ⟨hcz26_0, hcz26_1, hcz26_2, hcz26_3, hfz26_0, hfz26_1, hfz26_2, hfz26_3⟩ := four_ BK465.out
        try go_wp2
        refine bodyPost_ret (results_ct rfl _ _ gb465 25 #[.int .i64 0, .int .i64 0, .int .i64 0, .int .i64 0] (0, 0) _ rfl (by (with_reducible repeat (first | refine blk_drewN ?_ _ | refine blk_drew ?_ | refine blk_alloc ?_ _)); refine blk_put (cs := #[.int .i64 0, .int .i64 0, .int .i64 0, .int .i64 0]) ?_ 3 _ rfl; (with_reducible repeat (first | refine blk_drewN ?_ _ | refine blk_drew ?_ | refine blk_alloc ?_ _)); refine blk_put (cs := #[.int .i64 0, .int .i64 0, .int .i64 0, .int .i64 0]) ?_ 2 _ rfl; (with_reducible repeat (first | refine blk_drewN ?_ _ | refine blk_drew ?_ | refine blk_alloc ?_ _)); refine blk_put (cs := #[.int .i64 0, .int .i64 0, .int .i64 0, .int .i64 0]) ?_ 1 _ rfl; (with_reducible repeat (first | refine blk_drewN ?_ _ | refine blk_drew ?_ | refine blk_alloc ?_ _)); refine blk_put (cs := #[.int .i64 0, .int .i64 0, .int .i64 0, .int .i64 0]) ?_ 0 _ rfl; (with_reducible repeat (first | refine blk_drewN ?_ _ | refine blk_drew ?_ | refine blk_alloc ?_ _)); exact BK465.out) Tryz.underlying25 rfl (by kernel_rfl)) rfl ?_
        exact ⟨rt_, bw_⟩
      ·
       rw [if_neg c8] at H
       exact absurd H (by simp)
     ·
      rw [if_neg c7] at H
      exact absurd H (by simp)
    ·
     rw [if_neg c6] at H
     exact absurd H (by simp)
   ·
    rw [if_neg c5] at H
    exact absurd H (by simp)
  ·
   rw [if_neg c4] at H
   have c4b0 : ((t466.length : Int) == 4) = false := beq_eq_false_iff_ne.mpr c4
   have c4b1 : ((t466.length : Int) != 4) = true := bne_iff_ne.mpr c4
   simp only [Option.some.injEq, Prod.mk.injEq] at H
   obtain ⟨rfl, rfl, rfl, rfl, rfl⟩ := H
   go_enter Tryz.func24, Tryz.ntmps24
   try go_wp2_with (first | ((with_reducible refine gate_dst (N := 2) rfl ?_); (try (refine gate_guard (by rfl) ?_; dsimp only)); refine be_ 2 #[.int .i64 0, .int .i64 0, .int .i64 0, .int .i64 0] 25 ?_; intro gb465 hg w27 hbox hb; have n0_ := Aside0.mk (below_step bw_ hb); have n1_ := Aside0.mk (hbox); have n2_ := Aside0.mk (bz_ (w := w) hg); have n3_ := Aside0.mk (bz_ (w := w) hg); clear HB; have HB := n0_; have BK465 := n1_; have GW465 := n2_; have GE465 := n3_; clear n0_ n1_ n2_ n3_; clear hb hbox hg) | ((with_reducible refine gate_callee (f := 51) rfl ?_); refine gl_ (some 8) Tryz.func51 #[.string a0, .string (⟨#[45]⟩ : ByteArray)] ?_; (with_reducible refine (impl_readNumbers.calls k a0 (⟨#[45]⟩ : ByteArray) t466 true _ A2.out).mono ?_); rintro e w28 ⟨v468, rfl, ho0, hb⟩; refine ⟨_, rfl, ?_⟩; have n0_ := Aside0.mk (Kd.R_lower ho0 (below_size bw_)); have n1_ := Aside0.mk (bb_ BK465.out hb); have n2_ := Aside0.mk (below_step bw_ hb); clear BK465; clear HB; have HO469 := n0_; have BK465 := n1_; have HB := n2_; clear n0_ n1_ n2_; (try clear hb); (try clear hb2); (try clear hk); (try clear hi); (try clear ho0)))
   have n0_ := Aside0.mk (Kd.R_drew HO469.out)
   have n1_ := Aside0.mk (blk_drew BK465.out)
   have n2_ := Aside0.mk (below_drew1 HB.out)
   clear HO469
   clear BK465
   clear HB
   have HO469 := n0_
   have BK465 := n1_
   have HB := n2_
   clear n0_ n1_ n2_
   obtain ⟨Ao30, co30, eo30⟩ := Kd.R_slice HO469.out
   (first | subst eo30 | (injection eo30 with f1_ f2_ f3_; have f4_ := f1_.symm; have f5_ := f3_.symm; clear f1_ f2_ f3_; subst f4_; subst f5_))
   refine start_ (n := 24) (S := fun w' => True) (ds := []) #[false, false, false, false, false, false, false, false, false, false, false, false, false, false, false, false, false, false, false, false, false, false, false, false] (by kernel_rfl) rfl rfl trivial (fun hHeld => ?_); refine with_tabW impl_ParseChase.tab2 impl_ParseChase.bits2 (fun HT_ HW_ => ?_)
   generalize w28.drew = w29 at HO469 BK465 HB hHeld ⊢
   refine pu_ 0 11 24 1 ?_
   refine pu_ 1 12 24 3 ?_
   refine pu_ 2 13 24 7 ?_
   refine pu_ 3 14 24 15 ?_
   refine pu_ 4 15 24 31 ?_
   refine pu_ 5 16 24 63 ?_
   refine pu_ 6 17 24 127 ?_
   refine pu_ 7 18 24 255 ?_
   refine po_ 8 19 24 511 ?_
   refine po_ 9 20 24 1023 ?_
   refine po_ 10 21 24 2047 ?_
   refine po_ 11 22 24 4095 ?_
   refine po_ 12 23 24 8191 ?_
   refine po_ 13 24 24 16383 ?_
   refine po_ 14 25 24 32767 ?_
   refine po_ 15 26 24 65535 ?_
   refine po_ 16 27 24 131071 ?_
   refine po_ 17 28 24 262143 ?_
   refine po_ 18 29 24 524287 ?_
   refine po_ 19 30 24 1048575 ?_
   refine po_ 20 31 24 2097151 ?_
   refine po_ 21 32 24 4194303 ?_
   refine po_ 22 33 24 8388607 ?_
   refine pu_ 23 34 24 16777215 ?_
   refine done_ (done_of HT_.out (by kernel_rfl)) ?_
   obtain ⟨hcz31_0, hcz31_1, hcz31_2, hcz31_3, hfz31_0, hfz31_1, hfz31_2, hfz31_3⟩ := four_ BK465.out
   try go_wp2
   refine bodyPost_ret (results_ct rfl _ _ gb465 25 #[.int .i64 0, .int .i64 0, .int .i64 0, .int .i64 0] (0, 0) _ rfl (by (with_reducible repeat (first | refine blk_drewN ?_ _ | refine blk_drew ?_ | refine blk_alloc ?_ _)); refine blk_put (cs := #[.int .i64 0, .int .i64 0, .int .i64 0, .int .i64 0]) ?_ 3 _ rfl; (with_reducible repeat (first | refine blk_drewN ?_ _ | refine blk_drew ?_ | refine blk_alloc ?_ _)); refine blk_put (cs := #[.int .i64 0, .int .i64 0, .int .i64 0, .int .i64 0]) ?_ 2 _ rfl; (with_reducible repeat (first | refine blk_drewN ?_ _ | refine blk_drew ?_ | refine blk_alloc ?_ _)); refine blk_put (cs := #[.int .i64 0, .int .i64 0, .int .i64 0, .int .i64 0]) ?_ 1 _ rfl; (with_reducible repeat (first | refine blk_drewN ?_ _ | refine blk_drew ?_ | refine blk_alloc ?_ _)); refine blk_put (cs := #[.int .i64 0, .int .i64 0, .int .i64 0, .int .i64 0]) ?_ 0 _ rfl; (with_reducible repeat (first | refine blk_drewN ?_ _ | refine blk_drew ?_ | refine blk_alloc ?_ _)); exact BK465.out) Tryz.underlying25 rfl (by kernel_rfl)) rfl ?_
   exact ⟨rt_, bw_⟩
 ·
  replace c3 := Bool.eq_false_iff.mpr c3
  subst c3
  rw [if_neg (show ¬ (false = true) by decide)] at H
  simp only [Option.some.injEq, Prod.mk.injEq] at H
  obtain ⟨rfl, rfl, rfl, rfl, rfl⟩ := H
  go_enter Tryz.func24, Tryz.ntmps24
  try go_wp2_with (first | ((with_reducible refine gate_dst (N := 2) rfl ?_); (try (refine gate_guard (by rfl) ?_; dsimp only)); refine be_ 2 #[.int .i64 0, .int .i64 0, .int .i64 0, .int .i64 0] 25 ?_; intro gb465 hg w32 hbox hb; have n0_ := Aside0.mk (below_step bw_ hb); have n1_ := Aside0.mk (hbox); have n2_ := Aside0.mk (bz_ (w := w) hg); have n3_ := Aside0.mk (bz_ (w := w) hg); clear HB; have HB := n0_; have BK465 := n1_; have GW465 := n2_; have GE465 := n3_; clear n0_ n1_ n2_ n3_; clear hb hbox hg) | ((with_reducible refine gate_callee (f := 51) rfl ?_); refine gl_ (some 8) Tryz.func51 #[.string a0, .string (⟨#[45]⟩ : ByteArray)] ?_; (with_reducible refine (impl_readNumbers.calls k a0 (⟨#[45]⟩ : ByteArray) t466 false _ A2.out).mono ?_); rintro e w33 ⟨v468, rfl, ho0, hb⟩; refine ⟨_, rfl, ?_⟩; have n0_ := Aside0.mk (Kd.R_lower ho0 (below_size bw_)); have n1_ := Aside0.mk (bb_ BK465.out hb); have n2_ := Aside0.mk (below_step bw_ hb); clear BK465; clear HB; have HO469 := n0_; have BK465 := n1_; have HB := n2_; clear n0_ n1_ n2_; (try clear hb); (try clear hb2); (try clear hk); (try clear hi); (try clear ho0)))
  have n0_ := Aside0.mk (Kd.R_drew HO469.out)
  have n1_ := Aside0.mk (blk_drew BK465.out)
  have n2_ := Aside0.mk (below_drew1 HB.out)
  clear HO469
  clear BK465
  clear HB
  have HO469 := n0_
  have BK465 := n1_
  have HB := n2_
  clear n0_ n1_ n2_
  refine start_ (n := 24) (S := fun w' => True) (ds := []) #[false, false, false, false, false, false, false, false, false, false, false, false, false, false, false, false, false, false, false, false, false, false, false, false] (by kernel_rfl) rfl rfl trivial (fun hHeld => ?_); refine with_tabW impl_ParseChase.tab2 impl_ParseChase.bits2 (fun HT_ HW_ => ?_)
  generalize w33.drew = w34 at HO469 BK465 HB hHeld ⊢
  refine pu_ 0 11 24 1 ?_
  refine pu_ 1 12 24 3 ?_
  refine pu_ 2 13 24 7 ?_
  refine po_ 3 14 24 15 ?_
  refine po_ 4 15 24 31 ?_
  refine po_ 5 16 24 63 ?_
  refine pu_ 6 17 24 127 ?_
  refine pu_ 7 18 24 255 ?_
  refine po_ 8 19 24 511 ?_
  refine po_ 9 20 24 1023 ?_
  refine po_ 10 21 24 2047 ?_
  refine po_ 11 22 24 4095 ?_
  refine po_ 12 23 24 8191 ?_
  refine po_ 13 24 24 16383 ?_
  refine po_ 14 25 24 32767 ?_
  refine po_ 15 26 24 65535 ?_
  refine po_ 16 27 24 131071 ?_
  refine po_ 17 28 24 262143 ?_
  refine po_ 18 29 24 524287 ?_
  refine po_ 19 30 24 1048575 ?_
  refine po_ 20 31 24 2097151 ?_
  refine po_ 21 32 24 4194303 ?_
  refine po_ 22 33 24 8388607 ?_
  refine pu_ 23 34 24 16777215 ?_
  refine done_ (done_of HT_.out (by kernel_rfl)) ?_
  obtain ⟨hcz35_0, hcz35_1, hcz35_2, hcz35_3, hfz35_0, hfz35_1, hfz35_2, hfz35_3⟩ := four_ BK465.out
  try go_wp2
  refine bodyPost_ret (results_ct rfl _ _ gb465 25 #[.int .i64 0, .int .i64 0, .int .i64 0, .int .i64 0] (0, 0) _ rfl (by (with_reducible repeat (first | refine blk_drewN ?_ _ | refine blk_drew ?_ | refine blk_alloc ?_ _)); refine blk_put (cs := #[.int .i64 0, .int .i64 0, .int .i64 0, .int .i64 0]) ?_ 3 _ rfl; (with_reducible repeat (first | refine blk_drewN ?_ _ | refine blk_drew ?_ | refine blk_alloc ?_ _)); refine blk_put (cs := #[.int .i64 0, .int .i64 0, .int .i64 0, .int .i64 0]) ?_ 2 _ rfl; (with_reducible repeat (first | refine blk_drewN ?_ _ | refine blk_drew ?_ | refine blk_alloc ?_ _)); refine blk_put (cs := #[.int .i64 0, .int .i64 0, .int .i64 0, .int .i64 0]) ?_ 1 _ rfl; (with_reducible repeat (first | refine blk_drewN ?_ _ | refine blk_drew ?_ | refine blk_alloc ?_ _)); refine blk_put (cs := #[.int .i64 0, .int .i64 0, .int .i64 0, .int .i64 0]) ?_ 0 _ rfl; (with_reducible repeat (first | refine blk_drewN ?_ _ | refine blk_drew ?_ | refine blk_alloc ?_ _)); exact BK465.out) Tryz.underlying25 rfl (by kernel_rfl)) rfl ?_
  exact ⟨rt_, bw_⟩

end Go.Proofs.YtajlcomankjcjadGreatDoor.PFnDogsChase
