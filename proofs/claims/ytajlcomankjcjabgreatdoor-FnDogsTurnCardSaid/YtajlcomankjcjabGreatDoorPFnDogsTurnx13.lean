-- Laid by a program of this session's (wip/gen/printp.sh): the functions that the law reaches, each with its walk.
import Derived.Test.YtajlcomankjcjabGreatDoorPFnDogsTurnx0
import Derived.Test.YtajlcomankjcjabGreatDoorPFnDogsTurnx1
import Derived.Test.YtajlcomankjcjabGreatDoorPFnDogsTurnx2
import Derived.Test.YtajlcomankjcjabGreatDoorPFnDogsTurnx3
import Derived.Test.YtajlcomankjcjabGreatDoorPFnDogsTurnx5
import Derived.Test.YtajlcomankjcjabGreatDoorPFnDogsTurnx6
import Derived.Test.YtajlcomankjcjabGreatDoorPFnDogsTurnx7
import Derived.Test.YtajlcomankjcjabGreatDoorPFnDogsTurnx8
import Derived.Test.YtajlcomankjcjabGreatDoorPFnDogsTurnx9
import Derived.Test.YtajlcomankjcjabGreatDoorPFnDogsTurnx10
import Derived.Test.YtajlcomankjcjabGreatDoorPFnDogsTurnx11
import Derived.Test.YtajlcomankjcjabGreatDoorPFnDogsTurnx12
namespace Go.Proofs.YtajlcomankjcjabGreatDoor.PFnDogsTurn
open Go.RowKit Go.Proofs.YtajlcomankjcjabGreatDoorW.PrintWords Go.Proofs.YtajlcomankjcjabGreatDoorW.PrintLast Go.Proofs.YtajlcomankjcjabGreatDoorW.PrintMore
attribute [local go_sem] max2_int min2_int max_two min_two max_three min_three max_four min_four   -- for this text's walks alone
set_option linter.unusedVariables false
set_option linter.unusedSimpArgs false

attribute [local go_sem high] eqA25
set_option maxHeartbeats 80000000 in
set_option maxRecDepth 100000 in
theorem laws_FnDogsTurn.case1 (k : Nat) (A0 : Option Addr) (c0 : Nat) (l0 : List Int) (A1 : Option Addr) (c1 : Nat) (l1 : List Int) (r : Bool) (w : World) : (laws_FnDogsTurn.part k A0 c0 l0 A1 c1 l1 r w).1 := by
   intro hL0 HRT hu25 HR0 HC0 HR1 HC1 A3 t392 t393 t394 t395 t396 A5 t398 t401 A6 t402 t405 A7 t406 t407 t408 A8 t409 t410 t411 A9 t412 t413 t414 A10 t415 t416 t417 A11 HC12 z1_ nd z2_ w13 gb397 w14 GW397 GE397 hcz15_0 hcz15_1 hcz15_2 hcz15_3 hfz15_0 hfz15_1 hfz15_2 hfz15_3 w16 v399 hcz17_0 hcz17_1 hcz17_2 hcz17_3 hfz17_0 hfz17_1 hfz17_2 hfz17_3 w18 v403 hcz19_0 hcz19_1 hcz19_2 hcz19_3 hfz19_0 hfz19_1 hfz19_2 hfz19_3 w20 hcz21_0 hcz21_1 hcz21_2 hcz21_3 hfz21_0 hfz21_1 hfz21_2 hfz21_3 w22 hcz23_0 hcz23_1 hcz23_2 hcz23_3 hfz23_0 hfz23_1 hfz23_2 hfz23_3 w24 hcz25_0 hcz25_1 hcz25_2 hcz25_3 hfz25_0 hfz25_1 hfz25_2 hfz25_3 w26 HO400 HO404 BK397 HB z3_ z4_ z5_ z6_ z7_ z8_ z9_ z10_
   have H := HC12.out
   clear HC12
   by_cases c27 : (t401 != t405) = true
   ·
    rw [if_pos c27] at H
    have c27b0 : (t401 != t405) = true := c27
    (try (have c27b1 : decide (t401 = t405) = false := by simpa using c27))
    (try (have c27b2 : (t401 == t405) = false := by simpa using c27))
    (try (have c27b3 : ¬ (t401 = t405) := by simpa using c27))
    clear c27
    (first | rw [c27b0] | (simp only [i64_w, i32_w]; rw [c27b0]) | skip)
    exact absurd (H.trans (congrArg some HRT.out)) (by cases k <;> simp [laws_FnDogsTurn.j0])
   ·
    rw [if_neg c27] at H
    have c27b0 : (t401 != t405) = false := by simpa using c27
    (try (have c27b1 : decide (t401 = t405) = true := by simpa using c27))
    (try (have c27b2 : (t401 == t405) = true := by simpa using c27))
    clear c27
    (first | rw [c27b0] | (simp only [i64_w, i32_w]; rw [c27b0]) | skip)
    replace H := Option.bind_eq_some_iff.mp H
    obtain ⟨t418, A280, H⟩ := H
    (try dsimp only at H)
    have A28 := Aside0.mk A280
    clear A280
    by_cases c29 : t418 = true
    ·
     subst c29
     rw [if_pos rfl] at H
     by_cases c30 : (t408 != t411) = true
     ·
      rw [if_pos c30] at H
      have c30b0 : (t408 != t411) = true := c30
      (try (have c30b1 : decide (t408 = t411) = false := by simpa using c30))
      (try (have c30b2 : (t408 == t411) = false := by simpa using c30))
      (try (have c30b3 : ¬ (t408 = t411) := by simpa using c30))
      clear c30
      exact absurd (H.trans (congrArg some HRT.out)) (by cases k <;> simp [laws_FnDogsTurn.j0])
     ·
      rw [if_neg c30] at H
      have c30b0 : (t408 != t411) = false := by simpa using c30
      (try (have c30b1 : decide (t408 = t411) = true := by simpa using c30))
      (try (have c30b2 : (t408 == t411) = true := by simpa using c30))
      clear c30
      by_cases c31 : t406 = t409
      ·
       rw [if_pos c31] at H
       have c31b0 : (t406 == t409) = true := beq_iff_eq.mpr c31
       have c31b1 : (t406 != t409) = false := bne_eq_false_iff_eq.mpr c31
       clear c31
       by_cases c32 : t407 = t410
       ·
        rw [if_pos c32] at H
        have c32b0 : (t407 == t410) = true := beq_iff_eq.mpr c32
        have c32b1 : (t407 != t410) = false := bne_eq_false_iff_eq.mpr c32
        clear c32
        by_cases c33 : (t414 != t417) = true
        ·
         rw [if_pos c33] at H
         have c33b0 : (t414 != t417) = true := c33
         (try (have c33b1 : decide (t414 = t417) = false := by simpa using c33))
         (try (have c33b2 : (t414 == t417) = false := by simpa using c33))
         (try (have c33b3 : ¬ (t414 = t417) := by simpa using c33))
         clear c33
         exact absurd (H.trans (congrArg some HRT.out)) (by cases k <;> simp [laws_FnDogsTurn.j0])
        ·
         rw [if_neg c33] at H
         have c33b0 : (t414 != t417) = false := by simpa using c33
         (try (have c33b1 : decide (t414 = t417) = true := by simpa using c33))
         (try (have c33b2 : (t414 == t417) = true := by simpa using c33))
         clear c33
         by_cases c34 : t412 = t415
         ·
          rw [if_pos c34] at H
          have c34b0 : (t412 == t415) = true := beq_iff_eq.mpr c34
          have c34b1 : (t412 != t415) = false := bne_eq_false_iff_eq.mpr c34
          clear c34
          by_cases c35 : t413 = t416
          ·
           rw [if_pos c35] at H
           have c35b0 : (t413 == t416) = true := beq_iff_eq.mpr c35
           have c35b1 : (t413 != t416) = false := bne_eq_false_iff_eq.mpr c35
           clear c35
           by_cases c36 : (t408 != t401) = true
           ·
            rw [if_pos c36] at H
            have c36b0 : (t408 != t401) = true := c36
            (try (have c36b1 : decide (t408 = t401) = false := by simpa using c36))
            (try (have c36b2 : (t408 == t401) = false := by simpa using c36))
            (try (have c36b3 : ¬ (t408 = t401) := by simpa using c36))
            clear c36
            exact absurd (H.trans (congrArg some HRT.out)) (by cases k <;> simp [laws_FnDogsTurn.j0])
           ·
            rw [if_neg c36] at H
            have c36b0 : (t408 != t401) = false := by simpa using c36
            (try (have c36b1 : decide (t408 = t401) = true := by simpa using c36))
            (try (have c36b2 : (t408 == t401) = true := by simpa using c36))
            clear c36
            by_cases c37 : (t414 != t401) = true
            ·
             rw [if_pos c37] at H
             have c37b0 : (t414 != t401) = true := c37
             (try (have c37b1 : decide (t414 = t401) = false := by simpa using c37))
             (try (have c37b2 : (t414 == t401) = false := by simpa using c37))
             (try (have c37b3 : ¬ (t414 = t401) := by simpa using c37))
             clear c37
             exact absurd (H.trans (congrArg some HRT.out)) (by cases k <;> simp [laws_FnDogsTurn.j0])
            ·
             rw [if_neg c37] at H
             have c37b0 : (t414 != t401) = false := by simpa using c37
             (try (have c37b1 : decide (t414 = t401) = true := by simpa using c37))
             (try (have c37b2 : (t414 == t401) = true := by simpa using c37))
             clear c37
             replace H := Option.bind_eq_some_iff.mp H
             obtain ⟨t419, A380, H⟩ := H
             (try dsimp only at H)
             have A38 := Aside0.mk A380
             clear A380
             replace H := Option.bind_eq_some_iff.mp H
             obtain ⟨t420, A390, H⟩ := H
             (try dsimp only at H)
             have A39 := Aside0.mk A390
             clear A390
             by_cases c40 : (t419 != t420) = true
             ·
              rw [if_pos c40] at H
              have c40b0 : (t419 != t420) = true := c40
              (try (have c40b1 : decide (t419 = t420) = false := by simpa using c40))
              (try (have c40b2 : (t419 == t420) = false := by simpa using c40))
              (try (have c40b3 : ¬ (t419 = t420) := by simpa using c40))
              clear c40
              exact absurd (H.trans (congrArg some HRT.out)) (by cases k <;> simp [laws_FnDogsTurn.j0])
             ·
              rw [if_neg c40] at H
              have c40b0 : (t419 != t420) = false := by simpa using c40
              (try (have c40b1 : decide (t419 = t420) = true := by simpa using c40))
              (try (have c40b2 : (t419 == t420) = true := by simpa using c40))
              clear c40
              by_cases c41 : t401 = true
              ·
               subst c41
               rw [if_pos rfl] at H
               replace H := Option.bind_eq_some_iff.mp H
               obtain ⟨t421, A420, H⟩ := H
               (try dsimp only at H)
               have A42 := Aside0.mk A420
               clear A420
               have H' := Aside0.mk H
               clear H
               try go_wp2
               have n0_ := Aside0.mk (Kd.S_drew HO400.out)
               have n1_ := Aside0.mk (Kd.S_drew HO404.out)
               have n2_ := Aside0.mk (blk_drew BK397.out)
               have n3_ := Aside0.mk (below_drew1 HB.out)
               clear HO400
               clear HO404
               clear BK397
               clear HB
               have HO400 := n0_
               have HO404 := n1_
               have BK397 := n2_
               have HB := n3_
               clear n0_ n1_ n2_ n3_
               obtain ⟨Ao44, co44, eo44⟩ := Kd.S_slice HO400.out
               (first | subst eo44 | (injection eo44 with f1_ f2_ f3_; have f4_ := f1_.symm; have f5_ := f3_.symm; clear f1_ f2_ f3_; subst f4_; subst f5_))
               obtain ⟨Ao45, co45, eo45⟩ := Kd.S_slice HO404.out
               (first | subst eo45 | (injection eo45 with f1_ f2_ f3_; have f4_ := f1_.symm; have f5_ := f3_.symm; clear f1_ f2_ f3_; subst f4_; subst f5_))
               refine start_ (n := 64) (S := fun w' => w'.cell? ⟨gb397, 0, none⟩ = some (.int .i64 t392) ∧ w'.cell? ⟨gb397, 1, none⟩ = some (.int .i64 t393) ∧ w'.cell? ⟨gb397, 2, none⟩ = some (.int .i64 t394) ∧ w'.cell? ⟨gb397, 3, none⟩ = some (.int .i64 t395)) (ds := []) #[false, false, false, false, false, false, false, false, false, false, false, false, false, false, false, false, false, false, false, false, false, false, false, false, false, false, false, false, false, false, false, false, false, false, false, false, false, false, false, false, false, false, false, false, false, false, false, false, false, false, false, false, false, false, false, false, false, false, false, false, false, false, false, false] (by kernel_rfl) rfl rfl ⟨(blk_cell BK397.out 0).trans rfl, (blk_cell BK397.out 1).trans rfl, (blk_cell BK397.out 2).trans rfl, (blk_cell BK397.out 3).trans rfl⟩ (fun hHeld => ?_); refine with_tabW laws_FnDogsTurn.tab10 laws_FnDogsTurn.bits10 (fun HT_ HW_ => ?_)
               generalize w26.drew = w43 at HO400 HO404 BK397 HB hHeld ⊢
               refine pu_ 0 129 64 1 ?_
               refine pu_ 1 130 64 3 ?_
               refine pu_ 2 131 64 7 ?_
               refine pu_ 3 132 64 15 ?_
               refine pu_ 4 133 64 31 ?_
               refine pu_ 5 134 64 63 ?_
               refine one_ (i := 6) (N := some 135) (pm_ 64 127) rfl rfl (one_of HT_.out (by kernel_rfl)) (by decide) (fun K hK => ?_)
               refine goes_ Tryz.func12 (by kernel_rfl) rfl #[.slice Ao44 t398.length co44, .slice Ao45 t402.length co45] (by rfl) rfl rfl (by (try simp only [List.map_toArray, List.map_cons, List.map_nil]); first | done | rfl | (simp only [List.length_drop, List.length_take]; rfl)) ?_
               with_reducible refine (laws_yRows.calls k _ _ t398 _ _ t402 true _ ?side1 ?side2 ?side3 ?side4 A28.out).mono ?_
               (case side1 => repeat (first | exact (Kd.S_reads' HO400.out).2.2 | (with_reducible refine Kd.C_alloc ?_ _) | (with_reducible refine Kd.C_drewN ?_ _) | (with_reducible refine Kd.C_drew ?_)))
               (case side2 => exact (Kd.S_reads' HO400.out).2.1)
               (case side3 => repeat (first | exact (Kd.S_reads' HO404.out).2.2 | (with_reducible refine Kd.C_alloc ?_ _) | (with_reducible refine Kd.C_drewN ?_ _) | (with_reducible refine Kd.C_drew ?_)))
               (case side4 => exact (Kd.S_reads' HO404.out).2.1)
               rintro e w' ⟨rfl, ⟨nd, rfl⟩⟩
               refine ⟨_, rfl, ?_⟩
               refine hK.out _ _ ⟨(blk_cell BK397.out 0).trans rfl, (blk_cell BK397.out 1).trans rfl, (blk_cell BK397.out 2).trans rfl, (blk_cell BK397.out 3).trans rfl⟩ (fun hHeld => ?_)
               clear hK K
               refine norm_ (a' := ?_) ?_ ?_
               rotate_left
               ·
                show Act.put _ (some 135) _ = _
                simp only [Act.put, List.setIfInBounds_toArray, List.set_cons_zero, List.set_cons_succ, i64_w, i32_w]
                rfl
               refine pu_ 7 136 64 255 ?_
               refine pu_ 8 137 64 511 ?_
               refine pu_ 9 138 64 1023 ?_
               refine pu_ 10 139 64 2047 ?_
               refine pu_ 11 140 64 4095 ?_
               refine pu_ 12 141 64 8191 ?_
               refine pu_ 13 142 64 16383 ?_
               refine pu_ 14 143 64 32767 ?_
               refine pu_ 15 144 64 65535 ?_
               refine pu_ 16 145 64 131071 ?_
               refine pu_ 17 146 64 262143 ?_
               refine pu_ 18 147 64 524287 ?_
               refine pu_ 19 148 64 1048575 ?_
               refine pu_ 20 149 64 2097151 ?_
               refine pu_ 21 150 64 4194303 ?_
               refine pu_ 22 151 64 8388607 ?_
               refine pu_ 23 152 64 16777215 ?_
               refine pu_ 24 153 64 33554431 ?_
               refine pu_ 25 154 64 67108863 ?_
               refine pu_ 26 155 64 134217727 ?_
               refine pu_ 27 156 64 268435455 ?_
               refine pu_ 28 157 64 536870911 ?_
               refine pu_ 29 158 64 1073741823 ?_
               refine pu_ 30 159 64 2147483647 ?_
               refine pu_ 31 160 64 4294967295 ?_
               refine pu_ 32 161 64 8589934591 ?_
               refine pu_ 33 162 64 17179869183 ?_
               refine pu_ 34 163 64 34359738367 ?_
               refine pu_ 35 164 64 68719476735 ?_
               refine pu_ 36 165 64 137438953471 ?_
               refine pu_ 37 166 64 274877906943 ?_
               refine pu_ 38 167 64 549755813887 ?_
               refine pu_ 39 168 64 1099511627775 ?_
               refine pu_ 40 169 64 2199023255551 ?_
               refine pu_ 41 170 64 4398046511103 ?_
               refine pu_ 42 171 64 8796093022207 ?_
               refine pu_ 43 172 64 17592186044415 ?_
               refine pu_ 44 173 64 35184372088831 ?_
               refine pu_ 45 174 64 70368744177663 ?_
               refine pu_ 46 175 64 140737488355327 ?_
               refine pu_ 47 176 64 281474976710655 ?_
               refine pu_ 48 177 64 562949953421311 ?_
               refine pu_ 49 178 64 1125899906842623 ?_
               refine tk_ 50 179 64 2251799813685247 hHeld ?_
               refine tk_ 52 181 64 6755399441055743 hHeld ?_
               refine one_ (i := 51) (N := some 180) (pm_ 64 9007199254740991) rfl rfl (one_of HT_.out (by kernel_rfl)) (by decide) (fun K hK => ?_)
               refine goes_ Tryz.func13 (by kernel_rfl) rfl #[.agg #[.int .i64 t392, .int .i64 t393, .int .i64 t394, .int .i64 t395]] (by rfl) rfl rfl (by (try simp only [List.map_toArray, List.map_cons, List.map_nil]); first | done | rfl | (simp only [List.length_drop, List.length_take]; rfl)) ?_
               with_reducible refine (impl_IsChase.calls t392 t393 t394 t395 t419 _ A38.out).mono ?_
               rintro e w46 ⟨rfl, hb⟩
               refine ⟨_, rfl, ?_⟩
               have n0_ := Aside0.mk (Kd.S_below (by (with_reducible repeat (first | apply Kd.S_alloc | apply Kd.S_drewN | apply Kd.S_drew)); exact HO400.out) hb)
               have n1_ := Aside0.mk (Kd.S_below (by (with_reducible repeat (first | apply Kd.S_alloc | apply Kd.S_drewN | apply Kd.S_drew)); exact HO404.out) hb)
               have n2_ := Aside0.mk (blk_below (g := gb397) (o := .cells #[.int .i64 t392, .int .i64 t393, .int .i64 t394, .int .i64 t395] 25 (0, 0)) bk_ hb)
               have n3_ := Aside0.mk (below_step bw_ hb)
               clear HO400
               clear HO404
               clear BK397
               clear HB
               have HO400 := n0_
               have HO404 := n1_
               have BK397 := n2_
               have HB := n3_
               clear n0_ n1_ n2_ n3_
               (try clear hb); (try clear hb2); (try clear hk); (try clear hi)
               refine hK.out _ _ ⟨(blk_cell BK397.out 0).trans rfl, (blk_cell BK397.out 1).trans rfl, (blk_cell BK397.out 2).trans rfl, (blk_cell BK397.out 3).trans rfl⟩ (fun hHeld => ?_)
               clear hK K
               refine norm_ (a' := ?_) ?_ ?_
               rotate_left
               ·
                show Act.put _ (some 180) _ = _
                simp only [Act.put, List.setIfInBounds_toArray, List.set_cons_zero, List.set_cons_succ, i64_w, i32_w]
                rfl
               refine one_ (i := 53) (N := some 182) (pm_ 64 18014398509481983) rfl rfl (one_of HT_.out (by kernel_rfl)) (by decide) (fun K hK => ?_)
               refine goes_ Tryz.func14 (by kernel_rfl) rfl #[.agg #[.int .i64 t392, .int .i64 t393, .int .i64 t394, .int .i64 t395]] (by rfl) rfl rfl (by (try simp only [List.map_toArray, List.map_cons, List.map_nil]); first | done | rfl | (simp only [List.length_drop, List.length_take]; rfl)) ?_
               with_reducible refine (spec_IsChase.calls t392 t393 t394 t395 t420 _ A39.out).mono ?_
               rintro e w47 ⟨rfl, hb⟩
               refine ⟨_, rfl, ?_⟩
               have n0_ := Aside0.mk (Kd.S_below (by (with_reducible repeat (first | apply Kd.S_alloc | apply Kd.S_drewN | apply Kd.S_drew)); exact HO400.out) hb)
               have n1_ := Aside0.mk (Kd.S_below (by (with_reducible repeat (first | apply Kd.S_alloc | apply Kd.S_drewN | apply Kd.S_drew)); exact HO404.out) hb)
               have n2_ := Aside0.mk (blk_below (g := gb397) (o := .cells #[.int .i64 t392, .int .i64 t393, .int .i64 t394, .int .i64 t395] 25 (0, 0)) bk_ hb)
               have n3_ := Aside0.mk (below_step bw_ hb)
               clear HO400
               clear HO404
               clear BK397
               clear HB
               have HO400 := n0_
               have HO404 := n1_
               have BK397 := n2_
               have HB := n3_
               clear n0_ n1_ n2_ n3_
               (try clear hb); (try clear hb2); (try clear hk); (try clear hi)
               refine hK.out _ _ ⟨(blk_cell BK397.out 0).trans rfl, (blk_cell BK397.out 1).trans rfl, (blk_cell BK397.out 2).trans rfl, (blk_cell BK397.out 3).trans rfl⟩ (fun hHeld => ?_)
               clear hK K
               refine norm_ (a' := ?_) ?_ ?_
               rotate_left
               ·
                show Act.put _ (some 182) _ = _
                simp only [Act.put, List.setIfInBounds_toArray, List.set_cons_zero, List.set_cons_succ, i64_w, i32_w]
                rfl
               refine pu_ 54 183 64 36028797018963967 ?_
               refine pu_ 55 184 64 72057594037927935 ?_
               refine pu_ 56 185 64 144115188075855871 ?_
               refine pu_ 57 186 64 288230376151711743 ?_
               refine pu_ 58 187 64 576460752303423487 ?_
               refine tk_ 59 188 64 1152921504606846975 hHeld ?_
               refine one_ (i := 60) (N := some 189) (pm_ 64 2305843009213693951) rfl rfl (one_of HT_.out (by kernel_rfl)) (by decide) (fun K hK => ?_)
               refine goes_ Tryz.func13 (by kernel_rfl) rfl #[.agg #[.int .i64 t392, .int .i64 t393, .int .i64 t394, .int .i64 t395]] (by rfl) rfl rfl (by (try simp only [List.map_toArray, List.map_cons, List.map_nil]); first | done | rfl | (simp only [List.length_drop, List.length_take]; rfl)) ?_
               with_reducible refine (impl_IsChase.calls t392 t393 t394 t395 t421 _ A42.out).mono ?_
               rintro e w48 ⟨rfl, hb⟩
               refine ⟨_, rfl, ?_⟩
               have n0_ := Aside0.mk (Kd.S_below (by (with_reducible repeat (first | apply Kd.S_alloc | apply Kd.S_drewN | apply Kd.S_drew)); exact HO400.out) hb)
               have n1_ := Aside0.mk (Kd.S_below (by (with_reducible repeat (first | apply Kd.S_alloc | apply Kd.S_drewN | apply Kd.S_drew)); exact HO404.out) hb)
               have n2_ := Aside0.mk (blk_below (g := gb397) (o := .cells #[.int .i64 t392, .int .i64 t393, .int .i64 t394, .int .i64 t395] 25 (0, 0)) bk_ hb)
               have n3_ := Aside0.mk (below_step bw_ hb)
               clear HO400
               clear HO404
               clear BK397
               clear HB
               have HO400 := n0_
               have HO404 := n1_
               have BK397 := n2_
               have HB := n3_
               clear n0_ n1_ n2_ n3_
               (try clear hb); (try clear hb2); (try clear hk); (try clear hi)
               refine hK.out _ _ ⟨(blk_cell BK397.out 0).trans rfl, (blk_cell BK397.out 1).trans rfl, (blk_cell BK397.out 2).trans rfl, (blk_cell BK397.out 3).trans rfl⟩ (fun hHeld => ?_)
               clear hK K
               refine norm_ (a' := ?_) ?_ ?_
               rotate_left
               ·
                show Act.put _ (some 189) _ = _
                simp only [Act.put, List.setIfInBounds_toArray, List.set_cons_zero, List.set_cons_succ, i64_w, i32_w]
                rfl
               refine pu_ 61 190 64 4611686018427387903 ?_
               refine pu_ 62 191 64 9223372036854775807 ?_
               refine pu_ 63 192 64 18446744073709551615 ?_
               refine done_ (done_of HT_.out (by kernel_rfl)) ?_
               try go_wp2
               go_meet
               case rel => exact ⟨_, (!t421), (by first | rfl | (simp; done) | (simp [*]; done)), H', ⟨by first | omega | exact Nat.le_refl _⟩, ⟨by (with_reducible repeat (first | apply Kd.S_alloc | apply Kd.S_drewN | apply Kd.S_drew)); exact Kd.S_mono HO400.out (fun _ hk => trivial)⟩, ⟨bk_⟩, ⟨bw_⟩⟩
              ·
               replace c41 := Bool.eq_false_iff.mpr c41
               subst c41
               rw [if_neg (show ¬ (false = true) by decide)] at H
               have H' := Aside0.mk H
               clear H
               try go_wp2
               have n0_ := Aside0.mk (Kd.S_drew HO400.out)
               have n1_ := Aside0.mk (Kd.S_drew HO404.out)
               have n2_ := Aside0.mk (blk_drew BK397.out)
               have n3_ := Aside0.mk (below_drew1 HB.out)
               clear HO400
               clear HO404
               clear BK397
               clear HB
               have HO400 := n0_
               have HO404 := n1_
               have BK397 := n2_
               have HB := n3_
               clear n0_ n1_ n2_ n3_
               obtain ⟨Ao50, co50, eo50⟩ := Kd.S_slice HO400.out
               (first | subst eo50 | (injection eo50 with f1_ f2_ f3_; have f4_ := f1_.symm; have f5_ := f3_.symm; clear f1_ f2_ f3_; subst f4_; subst f5_))
               obtain ⟨Ao51, co51, eo51⟩ := Kd.S_slice HO404.out
               (first | subst eo51 | (injection eo51 with f1_ f2_ f3_; have f4_ := f1_.symm; have f5_ := f3_.symm; clear f1_ f2_ f3_; subst f4_; subst f5_))
               refine start_ (n := 64) (S := fun w' => w'.cell? ⟨gb397, 0, none⟩ = some (.int .i64 t392) ∧ w'.cell? ⟨gb397, 1, none⟩ = some (.int .i64 t393) ∧ w'.cell? ⟨gb397, 2, none⟩ = some (.int .i64 t394) ∧ w'.cell? ⟨gb397, 3, none⟩ = some (.int .i64 t395)) (ds := []) #[false, false, false, false, false, false, false, false, false, false, false, false, false, false, false, false, false, false, false, false, false, false, false, false, false, false, false, false, false, false, false, false, false, false, false, false, false, false, false, false, false, false, false, false, false, false, false, false, false, false, false, false, false, false, false, false, false, false, false, false, false, false, false, false] (by kernel_rfl) rfl rfl ⟨(blk_cell BK397.out 0).trans rfl, (blk_cell BK397.out 1).trans rfl, (blk_cell BK397.out 2).trans rfl, (blk_cell BK397.out 3).trans rfl⟩ (fun hHeld => ?_); refine with_tabW laws_FnDogsTurn.tab10 laws_FnDogsTurn.bits10 (fun HT_ HW_ => ?_)
               generalize w26.drew = w49 at HO400 HO404 BK397 HB hHeld ⊢
               refine pu_ 0 129 64 1 ?_
               refine pu_ 1 130 64 3 ?_
               refine pu_ 2 131 64 7 ?_
               refine pu_ 3 132 64 15 ?_
               refine pu_ 4 133 64 31 ?_
               refine pu_ 5 134 64 63 ?_
               refine one_ (i := 6) (N := some 135) (pm_ 64 127) rfl rfl (one_of HT_.out (by kernel_rfl)) (by decide) (fun K hK => ?_)
               refine goes_ Tryz.func12 (by kernel_rfl) rfl #[.slice Ao50 t398.length co50, .slice Ao51 t402.length co51] (by rfl) rfl rfl (by (try simp only [List.map_toArray, List.map_cons, List.map_nil]); first | done | rfl | (simp only [List.length_drop, List.length_take]; rfl)) ?_
               with_reducible refine (laws_yRows.calls k _ _ t398 _ _ t402 true _ ?side1 ?side2 ?side3 ?side4 A28.out).mono ?_
               (case side1 => repeat (first | exact (Kd.S_reads' HO400.out).2.2 | (with_reducible refine Kd.C_alloc ?_ _) | (with_reducible refine Kd.C_drewN ?_ _) | (with_reducible refine Kd.C_drew ?_)))
               (case side2 => exact (Kd.S_reads' HO400.out).2.1)
               (case side3 => repeat (first | exact (Kd.S_reads' HO404.out).2.2 | (with_reducible refine Kd.C_alloc ?_ _) | (with_reducible refine Kd.C_drewN ?_ _) | (with_reducible refine Kd.C_drew ?_)))
               (case side4 => exact (Kd.S_reads' HO404.out).2.1)
               rintro e w' ⟨rfl, ⟨nd, rfl⟩⟩
               refine ⟨_, rfl, ?_⟩
               refine hK.out _ _ ⟨(blk_cell BK397.out 0).trans rfl, (blk_cell BK397.out 1).trans rfl, (blk_cell BK397.out 2).trans rfl, (blk_cell BK397.out 3).trans rfl⟩ (fun hHeld => ?_)
               clear hK K
               refine norm_ (a' := ?_) ?_ ?_
               rotate_left
               ·
                show Act.put _ (some 135) _ = _
                simp only [Act.put, List.setIfInBounds_toArray, List.set_cons_zero, List.set_cons_succ, i64_w, i32_w]
                rfl
               refine pu_ 7 136 64 255 ?_
               refine pu_ 8 137 64 511 ?_
               refine pu_ 9 138 64 1023 ?_
               refine pu_ 10 139 64 2047 ?_
               refine pu_ 11 140 64 4095 ?_
               refine pu_ 12 141 64 8191 ?_
               refine pu_ 13 142 64 16383 ?_
               refine pu_ 14 143 64 32767 ?_
               refine pu_ 15 144 64 65535 ?_
               refine pu_ 16 145 64 131071 ?_
               refine pu_ 17 146 64 262143 ?_
               refine pu_ 18 147 64 524287 ?_
               refine pu_ 19 148 64 1048575 ?_
               refine pu_ 20 149 64 2097151 ?_
               refine pu_ 21 150 64 4194303 ?_
               refine pu_ 22 151 64 8388607 ?_
               refine pu_ 23 152 64 16777215 ?_
               refine pu_ 24 153 64 33554431 ?_
               refine pu_ 25 154 64 67108863 ?_
               refine pu_ 26 155 64 134217727 ?_
               refine pu_ 27 156 64 268435455 ?_
               refine pu_ 28 157 64 536870911 ?_
               refine pu_ 29 158 64 1073741823 ?_
               refine pu_ 30 159 64 2147483647 ?_
               refine pu_ 31 160 64 4294967295 ?_
               refine pu_ 32 161 64 8589934591 ?_
               refine pu_ 33 162 64 17179869183 ?_
               refine pu_ 34 163 64 34359738367 ?_
               refine pu_ 35 164 64 68719476735 ?_
               refine pu_ 36 165 64 137438953471 ?_
               refine pu_ 37 166 64 274877906943 ?_
               refine pu_ 38 167 64 549755813887 ?_
               refine pu_ 39 168 64 1099511627775 ?_
               refine pu_ 40 169 64 2199023255551 ?_
               refine pu_ 41 170 64 4398046511103 ?_
               refine pu_ 42 171 64 8796093022207 ?_
               refine pu_ 43 172 64 17592186044415 ?_
               refine pu_ 44 173 64 35184372088831 ?_
               refine pu_ 45 174 64 70368744177663 ?_
               refine pu_ 46 175 64 140737488355327 ?_
               refine pu_ 47 176 64 281474976710655 ?_
               refine pu_ 48 177 64 562949953421311 ?_
               refine pu_ 49 178 64 1125899906842623 ?_
               refine tk_ 50 179 64 2251799813685247 hHeld ?_
               refine tk_ 52 181 64 6755399441055743 hHeld ?_
               refine one_ (i := 51) (N := some 180) (pm_ 64 9007199254740991) rfl rfl (one_of HT_.out (by kernel_rfl)) (by decide) (fun K hK => ?_)
               refine goes_ Tryz.func13 (by kernel_rfl) rfl #[.agg #[.int .i64 t392, .int .i64 t393, .int .i64 t394, .int .i64 t395]] (by rfl) rfl rfl (by (try simp only [List.map_toArray, List.map_cons, List.map_nil]); first | done | rfl | (simp only [List.length_drop, List.length_take]; rfl)) ?_
               with_reducible refine (impl_IsChase.calls t392 t393 t394 t395 t419 _ A38.out).mono ?_
               rintro e w52 ⟨rfl, hb⟩
               refine ⟨_, rfl, ?_⟩
               have n0_ := Aside0.mk (Kd.S_below (by (with_reducible repeat (first | apply Kd.S_alloc | apply Kd.S_drewN | apply Kd.S_drew)); exact HO400.out) hb)
               have n1_ := Aside0.mk (Kd.S_below (by (with_reducible repeat (first | apply Kd.S_alloc | apply Kd.S_drewN | apply Kd.S_drew)); exact HO404.out) hb)
               have n2_ := Aside0.mk (blk_below (g := gb397) (o := .cells #[.int .i64 t392, .int .i64 t393, .int .i64 t394, .int .i64 t395] 25 (0, 0)) bk_ hb)
               have n3_ := Aside0.mk (below_step bw_ hb)
               clear HO400
               clear HO404
               clear BK397
               clear HB
               have HO400 := n0_
               have HO404 := n1_
               have BK397 := n2_
               have HB := n3_
               clear n0_ n1_ n2_ n3_
               (try clear hb); (try clear hb2); (try clear hk); (try clear hi)
               refine hK.out _ _ ⟨(blk_cell BK397.out 0).trans rfl, (blk_cell BK397.out 1).trans rfl, (blk_cell BK397.out 2).trans rfl, (blk_cell BK397.out 3).trans rfl⟩ (fun hHeld => ?_)
               clear hK K
               refine norm_ (a' := ?_) ?_ ?_
               rotate_left
               ·
                show Act.put _ (some 180) _ = _
                simp only [Act.put, List.setIfInBounds_toArray, List.set_cons_zero, List.set_cons_succ, i64_w, i32_w]
                rfl
               refine one_ (i := 53) (N := some 182) (pm_ 64 18014398509481983) rfl rfl (one_of HT_.out (by kernel_rfl)) (by decide) (fun K hK => ?_)
               refine goes_ Tryz.func14 (by kernel_rfl) rfl #[.agg #[.int .i64 t392, .int .i64 t393, .int .i64 t394, .int .i64 t395]] (by rfl) rfl rfl (by (try simp only [List.map_toArray, List.map_cons, List.map_nil]); first | done | rfl | (simp only [List.length_drop, List.length_take]; rfl)) ?_
               with_reducible refine (spec_IsChase.calls t392 t393 t394 t395 t420 _ A39.out).mono ?_
               rintro e w53 ⟨rfl, hb⟩
               refine ⟨_, rfl, ?_⟩
               have n0_ := Aside0.mk (Kd.S_below (by (with_reducible repeat (first | apply Kd.S_alloc | apply Kd.S_drewN | apply Kd.S_drew)); exact HO400.out) hb)
               have n1_ := Aside0.mk (Kd.S_below (by (with_reducible repeat (first | apply Kd.S_alloc | apply Kd.S_drewN | apply Kd.S_drew)); exact HO404.out) hb)
               have n2_ := Aside0.mk (blk_below (g := gb397) (o := .cells #[.int .i64 t392, .int .i64 t393, .int .i64 t394, .int .i64 t395] 25 (0, 0)) bk_ hb)
               have n3_ := Aside0.mk (below_step bw_ hb)
               clear HO400
               clear HO404
               clear BK397
               clear HB
               have HO400 := n0_
               have HO404 := n1_
               have BK397 := n2_
               have HB := n3_
               clear n0_ n1_ n2_ n3_
               (try clear hb); (try clear hb2); (try clear hk); (try clear hi)
               refine hK.out _ _ ⟨(blk_cell BK397.out 0).trans rfl, (blk_cell BK397.out 1).trans rfl, (blk_cell BK397.out 2).trans rfl, (blk_cell BK397.out 3).trans rfl⟩ (fun hHeld => ?_)
               clear hK K
               refine norm_ (a' := ?_) ?_ ?_
               rotate_left
               ·
                show Act.put _ (some 182) _ = _
                simp only [Act.put, List.setIfInBounds_toArray, List.set_cons_zero, List.set_cons_succ, i64_w, i32_w]
                rfl
               refine pu_ 54 183 64 36028797018963967 ?_
               refine pu_ 55 184 64 72057594037927935 ?_
               refine pu_ 56 185 64 144115188075855871 ?_
               refine pu_ 57 186 64 288230376151711743 ?_
               refine pu_ 58 187 64 576460752303423487 ?_
               refine po_ 59 188 64 1152921504606846975 ?_
               refine po_ 60 189 64 2305843009213693951 ?_
               refine po_ 61 190 64 4611686018427387903 ?_
               refine pu_ 62 191 64 9223372036854775807 ?_
               refine pu_ 63 192 64 18446744073709551615 ?_
               refine done_ (done_of HT_.out (by kernel_rfl)) ?_
               try go_wp2
               go_meet
               case rel => exact ⟨_, (false), (by first | rfl | (simp; done) | (simp [*]; done)), H', ⟨by first | omega | exact Nat.le_refl _⟩, ⟨by (with_reducible repeat (first | apply Kd.S_alloc | apply Kd.S_drewN | apply Kd.S_drew)); exact Kd.S_mono HO400.out (fun _ hk => trivial)⟩, ⟨bk_⟩, ⟨bw_⟩⟩
          ·
           rw [if_neg c35] at H
           have c35b0 : (t413 == t416) = false := beq_eq_false_iff_ne.mpr c35
           have c35b1 : (t413 != t416) = true := bne_iff_ne.mpr c35
           exact absurd (H.trans (congrArg some HRT.out)) (by cases k <;> simp [laws_FnDogsTurn.j0])
         ·
          rw [if_neg c34] at H
          have c34b0 : (t412 == t415) = false := beq_eq_false_iff_ne.mpr c34
          have c34b1 : (t412 != t415) = true := bne_iff_ne.mpr c34
          exact absurd (H.trans (congrArg some HRT.out)) (by cases k <;> simp [laws_FnDogsTurn.j0])
       ·
        rw [if_neg c32] at H
        have c32b0 : (t407 == t410) = false := beq_eq_false_iff_ne.mpr c32
        have c32b1 : (t407 != t410) = true := bne_iff_ne.mpr c32
        exact absurd (H.trans (congrArg some HRT.out)) (by cases k <;> simp [laws_FnDogsTurn.j0])
      ·
       rw [if_neg c31] at H
       have c31b0 : (t406 == t409) = false := beq_eq_false_iff_ne.mpr c31
       have c31b1 : (t406 != t409) = true := bne_iff_ne.mpr c31
       exact absurd (H.trans (congrArg some HRT.out)) (by cases k <;> simp [laws_FnDogsTurn.j0])
    ·
     replace c29 := Bool.eq_false_iff.mpr c29
     subst c29
     rw [if_neg (show ¬ (false = true) by decide)] at H
     exact absurd (H.trans (congrArg some HRT.out)) (by cases k <;> simp [laws_FnDogsTurn.j0])
end Go.Proofs.YtajlcomankjcjabGreatDoor.PFnDogsTurn
