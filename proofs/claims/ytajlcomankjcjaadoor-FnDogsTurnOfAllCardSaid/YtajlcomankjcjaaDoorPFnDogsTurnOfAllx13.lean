-- Laid by a program of this session's (wip/gen/printp.sh): the functions that the law reaches, each with its walk.
import Derived.Test.YtajlcomankjcjaaDoorPFnDogsTurnOfAllx0
import Derived.Test.YtajlcomankjcjaaDoorPFnDogsTurnOfAllx1
import Derived.Test.YtajlcomankjcjaaDoorPFnDogsTurnOfAllx2
import Derived.Test.YtajlcomankjcjaaDoorPFnDogsTurnOfAllx5
import Derived.Test.YtajlcomankjcjaaDoorPFnDogsTurnOfAllx6
import Derived.Test.YtajlcomankjcjaaDoorPFnDogsTurnOfAllx7
import Derived.Test.YtajlcomankjcjaaDoorPFnDogsTurnOfAllx8
import Derived.Test.YtajlcomankjcjaaDoorPFnDogsTurnOfAllx9
import Derived.Test.YtajlcomankjcjaaDoorPFnDogsTurnOfAllx10
import Derived.Test.YtajlcomankjcjaaDoorPFnDogsTurnOfAllx11
import Derived.Test.YtajlcomankjcjaaDoorPFnDogsTurnOfAllx12
namespace Go.Proofs.YtajlcomankjcjaaDoor.PFnDogsTurnOfAll
open Go.RowKit Go.Proofs.YtajlcomankjcjaaDoorW.PrintWords Go.Proofs.YtajlcomankjcjaaDoorW.PrintLast Go.Proofs.YtajlcomankjcjaaDoorW.PrintMore
attribute [local go_sem] max2_int min2_int max_two min_two max_three min_three max_four min_four   -- for this text's walks alone
set_option linter.unusedVariables false
set_option linter.unusedSimpArgs false

attribute [local go_sem high] eqA23
set_option maxHeartbeats 80000000 in
set_option maxRecDepth 100000 in
theorem laws_FnDogsTurnOfAll.case1 (k : Nat) (a0_0 : Int) (a0_1 : Int) (a0_2 : Int) (a0_3 : Int) (a1 : Int) (a2_0 : Int) (a2_1 : Int) (a2_2 : Int) (a2_3 : Int) (r : Bool) (w : World) : (laws_FnDogsTurnOfAll.part k a0_0 a0_1 a0_2 a0_3 a1 a2_0 a2_1 a2_2 a2_3 r w).1 := by
  intro hL0 HRT hu23 t307 t310 A4 t311 t314 A5 t315 t316 t317 A6 t318 t319 t320 A7 t321 t322 t323 A8 t324 t325 t326 A9 HC10 z1_ gb305 w11 GW305 GE305 gb306 w12 GW306 GE306 NB305_306 NB306_305 hnb13 hnc13 hcz14_0 hcz14_1 hcz14_2 hcz14_3 hfz14_0 hfz14_1 hfz14_2 hfz14_3 w15 v308 hcz16_0 hcz16_1 hcz16_2 hcz16_3 hfz16_0 hfz16_1 hfz16_2 hfz16_3 w17 v312 hcz18_0 hcz18_1 hcz18_2 hcz18_3 hfz18_0 hfz18_1 hfz18_2 hfz18_3 w19 hcz20_0 hcz20_1 hcz20_2 hcz20_3 hfz20_0 hfz20_1 hfz20_2 hfz20_3 w21 hcz22_0 hcz22_1 hcz22_2 hcz22_3 hfz22_0 hfz22_1 hfz22_2 hfz22_3 w23 hcz24_0 hcz24_1 hcz24_2 hcz24_3 hfz24_0 hfz24_1 hfz24_2 hfz24_3 w25 HO309 HO313 BK305 BK306 HB z2_ z3_ z4_ z5_ z6_ z7_ z8_ z9_
  have H := HC10.out
  clear HC10
  by_cases c26 : (t310 != t314) = true
  ·
   rw [if_pos c26] at H
   have c26b0 : (t310 != t314) = true := c26
   (try (have c26b1 : decide (t310 = t314) = false := by simpa using c26))
   (try (have c26b2 : (t310 == t314) = false := by simpa using c26))
   (try (have c26b3 : ¬ (t310 = t314) := by simpa using c26))
   clear c26
   (first | rw [c26b0] | (simp only [i64_w, i32_w]; rw [c26b0]) | skip)
   exact absurd (H.trans (congrArg some HRT.out)) (by cases k <;> simp [laws_FnDogsTurnOfAll.j0])
  ·
   rw [if_neg c26] at H
   have c26b0 : (t310 != t314) = false := by simpa using c26
   (try (have c26b1 : decide (t310 = t314) = true := by simpa using c26))
   (try (have c26b2 : (t310 == t314) = true := by simpa using c26))
   clear c26
   (first | rw [c26b0] | (simp only [i64_w, i32_w]; rw [c26b0]) | skip)
   replace H := Option.bind_eq_some_iff.mp H
   obtain ⟨t327, A270, H⟩ := H
   (try dsimp only at H)
   have A27 := Aside0.mk A270
   clear A270
   by_cases c28 : t327 = true
   ·
    subst c28
    rw [if_pos rfl] at H
    by_cases c29 : (t317 != t320) = true
    ·
     rw [if_pos c29] at H
     have c29b0 : (t317 != t320) = true := c29
     (try (have c29b1 : decide (t317 = t320) = false := by simpa using c29))
     (try (have c29b2 : (t317 == t320) = false := by simpa using c29))
     (try (have c29b3 : ¬ (t317 = t320) := by simpa using c29))
     clear c29
     exact absurd (H.trans (congrArg some HRT.out)) (by cases k <;> simp [laws_FnDogsTurnOfAll.j0])
    ·
     rw [if_neg c29] at H
     have c29b0 : (t317 != t320) = false := by simpa using c29
     (try (have c29b1 : decide (t317 = t320) = true := by simpa using c29))
     (try (have c29b2 : (t317 == t320) = true := by simpa using c29))
     clear c29
     by_cases c30 : t315 = t318
     ·
      rw [if_pos c30] at H
      have c30b0 : (t315 == t318) = true := beq_iff_eq.mpr c30
      have c30b1 : (t315 != t318) = false := bne_eq_false_iff_eq.mpr c30
      clear c30
      by_cases c31 : t316 = t319
      ·
       rw [if_pos c31] at H
       have c31b0 : (t316 == t319) = true := beq_iff_eq.mpr c31
       have c31b1 : (t316 != t319) = false := bne_eq_false_iff_eq.mpr c31
       clear c31
       by_cases c32 : (t323 != t326) = true
       ·
        rw [if_pos c32] at H
        have c32b0 : (t323 != t326) = true := c32
        (try (have c32b1 : decide (t323 = t326) = false := by simpa using c32))
        (try (have c32b2 : (t323 == t326) = false := by simpa using c32))
        (try (have c32b3 : ¬ (t323 = t326) := by simpa using c32))
        clear c32
        exact absurd (H.trans (congrArg some HRT.out)) (by cases k <;> simp [laws_FnDogsTurnOfAll.j0])
       ·
        rw [if_neg c32] at H
        have c32b0 : (t323 != t326) = false := by simpa using c32
        (try (have c32b1 : decide (t323 = t326) = true := by simpa using c32))
        (try (have c32b2 : (t323 == t326) = true := by simpa using c32))
        clear c32
        by_cases c33 : t321 = t324
        ·
         rw [if_pos c33] at H
         have c33b0 : (t321 == t324) = true := beq_iff_eq.mpr c33
         have c33b1 : (t321 != t324) = false := bne_eq_false_iff_eq.mpr c33
         clear c33
         by_cases c34 : t322 = t325
         ·
          rw [if_pos c34] at H
          have c34b0 : (t322 == t325) = true := beq_iff_eq.mpr c34
          have c34b1 : (t322 != t325) = false := bne_eq_false_iff_eq.mpr c34
          clear c34
          by_cases c35 : (t317 != t310) = true
          ·
           rw [if_pos c35] at H
           have c35b0 : (t317 != t310) = true := c35
           (try (have c35b1 : decide (t317 = t310) = false := by simpa using c35))
           (try (have c35b2 : (t317 == t310) = false := by simpa using c35))
           (try (have c35b3 : ¬ (t317 = t310) := by simpa using c35))
           clear c35
           exact absurd (H.trans (congrArg some HRT.out)) (by cases k <;> simp [laws_FnDogsTurnOfAll.j0])
          ·
           rw [if_neg c35] at H
           have c35b0 : (t317 != t310) = false := by simpa using c35
           (try (have c35b1 : decide (t317 = t310) = true := by simpa using c35))
           (try (have c35b2 : (t317 == t310) = true := by simpa using c35))
           clear c35
           by_cases c36 : (t323 != t310) = true
           ·
            rw [if_pos c36] at H
            have c36b0 : (t323 != t310) = true := c36
            (try (have c36b1 : decide (t323 = t310) = false := by simpa using c36))
            (try (have c36b2 : (t323 == t310) = false := by simpa using c36))
            (try (have c36b3 : ¬ (t323 = t310) := by simpa using c36))
            clear c36
            exact absurd (H.trans (congrArg some HRT.out)) (by cases k <;> simp [laws_FnDogsTurnOfAll.j0])
           ·
            rw [if_neg c36] at H
            have c36b0 : (t323 != t310) = false := by simpa using c36
            (try (have c36b1 : decide (t323 = t310) = true := by simpa using c36))
            (try (have c36b2 : (t323 == t310) = true := by simpa using c36))
            clear c36
            replace H := Option.bind_eq_some_iff.mp H
            obtain ⟨t328, A370, H⟩ := H
            (try dsimp only at H)
            have A37 := Aside0.mk A370
            clear A370
            replace H := Option.bind_eq_some_iff.mp H
            obtain ⟨t329, A380, H⟩ := H
            (try dsimp only at H)
            have A38 := Aside0.mk A380
            clear A380
            by_cases c39 : (t328 != t329) = true
            ·
             rw [if_pos c39] at H
             have c39b0 : (t328 != t329) = true := c39
             (try (have c39b1 : decide (t328 = t329) = false := by simpa using c39))
             (try (have c39b2 : (t328 == t329) = false := by simpa using c39))
             (try (have c39b3 : ¬ (t328 = t329) := by simpa using c39))
             clear c39
             exact absurd (H.trans (congrArg some HRT.out)) (by cases k <;> simp [laws_FnDogsTurnOfAll.j0])
            ·
             rw [if_neg c39] at H
             have c39b0 : (t328 != t329) = false := by simpa using c39
             (try (have c39b1 : decide (t328 = t329) = true := by simpa using c39))
             (try (have c39b2 : (t328 == t329) = true := by simpa using c39))
             clear c39
             by_cases c40 : t310 = true
             ·
              subst c40
              rw [if_pos rfl] at H
              replace H := Option.bind_eq_some_iff.mp H
              obtain ⟨t330, A410, H⟩ := H
              (try dsimp only at H)
              have A41 := Aside0.mk A410
              clear A410
              have H' := Aside0.mk H
              clear H
              try go_wp2
              have n0_ := Aside0.mk (Kd.S_drew HO309.out)
              have n1_ := Aside0.mk (Kd.S_drew HO313.out)
              have n2_ := Aside0.mk (blk_drew BK305.out)
              have n3_ := Aside0.mk (blk_drew BK306.out)
              have n4_ := Aside0.mk (below_drew1 HB.out)
              clear HO309
              clear HO313
              clear BK305
              clear BK306
              clear HB
              have HO309 := n0_
              have HO313 := n1_
              have BK305 := n2_
              have BK306 := n3_
              have HB := n4_
              clear n0_ n1_ n2_ n3_ n4_
              obtain ⟨Ao43, co43, eo43⟩ := Kd.S_slice HO309.out
              (first | subst eo43 | (injection eo43 with f1_ f2_ f3_; have f4_ := f1_.symm; have f5_ := f3_.symm; clear f1_ f2_ f3_; subst f4_; subst f5_))
              obtain ⟨Ao44, co44, eo44⟩ := Kd.S_slice HO313.out
              (first | subst eo44 | (injection eo44 with f1_ f2_ f3_; have f4_ := f1_.symm; have f5_ := f3_.symm; clear f1_ f2_ f3_; subst f4_; subst f5_))
              refine start_ (n := 64) (S := fun w' => w'.cell? ⟨gb305, 0, none⟩ = some (.int .i64 a0_0) ∧ w'.cell? ⟨gb305, 1, none⟩ = some (.int .i64 a0_1) ∧ w'.cell? ⟨gb305, 2, none⟩ = some (.int .i64 a0_2) ∧ w'.cell? ⟨gb305, 3, none⟩ = some (.int .i64 a0_3)) (ds := []) #[false, false, false, false, false, false, false, false, false, false, false, false, false, false, false, false, false, false, false, false, false, false, false, false, false, false, false, false, false, false, false, false, false, false, false, false, false, false, false, false, false, false, false, false, false, false, false, false, false, false, false, false, false, false, false, false, false, false, false, false, false, false, false, false] (by kernel_rfl) rfl rfl ⟨(blk_cell BK305.out 0).trans rfl, (blk_cell BK305.out 1).trans rfl, (blk_cell BK305.out 2).trans rfl, (blk_cell BK305.out 3).trans rfl⟩ (fun hHeld => ?_); refine with_tabW laws_FnDogsTurnOfAll.tab7 laws_FnDogsTurnOfAll.bits7 (fun HT_ HW_ => ?_)
              generalize w25.drew = w42 at HO309 HO313 BK305 BK306 HB hHeld ⊢
              refine pu_ 0 120 64 1 ?_
              refine pu_ 1 121 64 3 ?_
              refine pu_ 2 122 64 7 ?_
              refine pu_ 3 123 64 15 ?_
              refine pu_ 4 124 64 31 ?_
              refine pu_ 5 125 64 63 ?_
              refine one_ (i := 6) (N := some 126) (pm_ 64 127) rfl rfl (one_of HT_.out (by kernel_rfl)) (by decide) (fun K hK => ?_)
              refine goes_ Tryd.func10 (by kernel_rfl) rfl #[.slice Ao43 t307.length co43, .slice Ao44 t311.length co44] (by rfl) rfl rfl (by (try simp only [List.map_toArray, List.map_cons, List.map_nil]); first | done | rfl | (simp only [List.length_drop, List.length_take]; rfl)) ?_
              with_reducible refine (laws_yRows.calls k _ _ t307 _ _ t311 true _ ?side1 ?side2 ?side3 ?side4 A27.out).mono ?_
              (case side1 => repeat (first | exact (Kd.S_reads' HO309.out).2.2 | (with_reducible refine Kd.C_alloc ?_ _) | (with_reducible refine Kd.C_drewN ?_ _) | (with_reducible refine Kd.C_drew ?_)))
              (case side2 => exact (Kd.S_reads' HO309.out).2.1)
              (case side3 => repeat (first | exact (Kd.S_reads' HO313.out).2.2 | (with_reducible refine Kd.C_alloc ?_ _) | (with_reducible refine Kd.C_drewN ?_ _) | (with_reducible refine Kd.C_drew ?_)))
              (case side4 => exact (Kd.S_reads' HO313.out).2.1)
              rintro e w' ⟨rfl, ⟨nd, rfl⟩⟩
              refine ⟨_, rfl, ?_⟩
              refine hK.out _ _ ⟨(blk_cell BK305.out 0).trans rfl, (blk_cell BK305.out 1).trans rfl, (blk_cell BK305.out 2).trans rfl, (blk_cell BK305.out 3).trans rfl⟩ (fun hHeld => ?_)
              clear hK K
              refine norm_ (a' := ?_) ?_ ?_
              rotate_left
              ·
               show Act.put _ (some 126) _ = _
               simp only [Act.put, List.setIfInBounds_toArray, List.set_cons_zero, List.set_cons_succ, i64_w, i32_w]
               rfl
              refine pu_ 7 127 64 255 ?_
              refine pu_ 8 128 64 511 ?_
              refine pu_ 9 129 64 1023 ?_
              refine pu_ 10 130 64 2047 ?_
              refine pu_ 11 131 64 4095 ?_
              refine pu_ 12 132 64 8191 ?_
              refine pu_ 13 133 64 16383 ?_
              refine pu_ 14 134 64 32767 ?_
              refine pu_ 15 135 64 65535 ?_
              refine pu_ 16 136 64 131071 ?_
              refine pu_ 17 137 64 262143 ?_
              refine pu_ 18 138 64 524287 ?_
              refine pu_ 19 139 64 1048575 ?_
              refine pu_ 20 140 64 2097151 ?_
              refine pu_ 21 141 64 4194303 ?_
              refine pu_ 22 142 64 8388607 ?_
              refine pu_ 23 143 64 16777215 ?_
              refine pu_ 24 144 64 33554431 ?_
              refine pu_ 25 145 64 67108863 ?_
              refine pu_ 26 146 64 134217727 ?_
              refine pu_ 27 147 64 268435455 ?_
              refine pu_ 28 148 64 536870911 ?_
              refine pu_ 29 149 64 1073741823 ?_
              refine pu_ 30 150 64 2147483647 ?_
              refine pu_ 31 151 64 4294967295 ?_
              refine pu_ 32 152 64 8589934591 ?_
              refine pu_ 33 153 64 17179869183 ?_
              refine pu_ 34 154 64 34359738367 ?_
              refine pu_ 35 155 64 68719476735 ?_
              refine pu_ 36 156 64 137438953471 ?_
              refine pu_ 37 157 64 274877906943 ?_
              refine pu_ 38 158 64 549755813887 ?_
              refine pu_ 39 159 64 1099511627775 ?_
              refine pu_ 40 160 64 2199023255551 ?_
              refine pu_ 41 161 64 4398046511103 ?_
              refine pu_ 42 162 64 8796093022207 ?_
              refine pu_ 43 163 64 17592186044415 ?_
              refine pu_ 44 164 64 35184372088831 ?_
              refine pu_ 45 165 64 70368744177663 ?_
              refine pu_ 46 166 64 140737488355327 ?_
              refine pu_ 47 167 64 281474976710655 ?_
              refine pu_ 48 168 64 562949953421311 ?_
              refine pu_ 49 169 64 1125899906842623 ?_
              refine tk_ 50 170 64 2251799813685247 hHeld ?_
              refine tk_ 52 172 64 6755399441055743 hHeld ?_
              refine one_ (i := 51) (N := some 171) (pm_ 64 9007199254740991) rfl rfl (one_of HT_.out (by kernel_rfl)) (by decide) (fun K hK => ?_)
              refine goes_ Tryd.func11 (by kernel_rfl) rfl #[.agg #[.int .i64 a0_0, .int .i64 a0_1, .int .i64 a0_2, .int .i64 a0_3]] (by rfl) rfl rfl (by (try simp only [List.map_toArray, List.map_cons, List.map_nil]); first | done | rfl | (simp only [List.length_drop, List.length_take]; rfl)) ?_
              with_reducible refine (impl_IsChase.calls a0_0 a0_1 a0_2 a0_3 t328 _ A37.out).mono ?_
              rintro e w45 ⟨rfl, hb⟩
              refine ⟨_, rfl, ?_⟩
              have n0_ := Aside0.mk (Kd.S_below (by (with_reducible repeat (first | apply Kd.S_alloc | apply Kd.S_drewN | apply Kd.S_drew)); exact HO309.out) hb)
              have n1_ := Aside0.mk (Kd.S_below (by (with_reducible repeat (first | apply Kd.S_alloc | apply Kd.S_drewN | apply Kd.S_drew)); exact HO313.out) hb)
              have n2_ := Aside0.mk (blk_below (g := gb305) (o := .cells #[.int .i64 a0_0, .int .i64 a0_1, .int .i64 a0_2, .int .i64 a0_3] 23 (0, 0)) bk_ hb)
              have n3_ := Aside0.mk (blk_below (g := gb306) (o := .cells #[.int .i64 a2_0, .int .i64 a2_1, .int .i64 a2_2, .int .i64 a2_3] 23 (0, 0)) bk_ hb)
              have n4_ := Aside0.mk (below_step bw_ hb)
              clear HO309
              clear HO313
              clear BK305
              clear BK306
              clear HB
              have HO309 := n0_
              have HO313 := n1_
              have BK305 := n2_
              have BK306 := n3_
              have HB := n4_
              clear n0_ n1_ n2_ n3_ n4_
              (try clear hb); (try clear hb2); (try clear hk); (try clear hi)
              refine hK.out _ _ ⟨(blk_cell BK305.out 0).trans rfl, (blk_cell BK305.out 1).trans rfl, (blk_cell BK305.out 2).trans rfl, (blk_cell BK305.out 3).trans rfl⟩ (fun hHeld => ?_)
              clear hK K
              refine norm_ (a' := ?_) ?_ ?_
              rotate_left
              ·
               show Act.put _ (some 171) _ = _
               simp only [Act.put, List.setIfInBounds_toArray, List.set_cons_zero, List.set_cons_succ, i64_w, i32_w]
               rfl
              refine one_ (i := 53) (N := some 173) (pm_ 64 18014398509481983) rfl rfl (one_of HT_.out (by kernel_rfl)) (by decide) (fun K hK => ?_)
              refine goes_ Tryd.func12 (by kernel_rfl) rfl #[.agg #[.int .i64 a0_0, .int .i64 a0_1, .int .i64 a0_2, .int .i64 a0_3]] (by rfl) rfl rfl (by (try simp only [List.map_toArray, List.map_cons, List.map_nil]); first | done | rfl | (simp only [List.length_drop, List.length_take]; rfl)) ?_
              with_reducible refine (spec_IsChase.calls a0_0 a0_1 a0_2 a0_3 t329 _ A38.out).mono ?_
              rintro e w46 ⟨rfl, hb⟩
              refine ⟨_, rfl, ?_⟩
              have n0_ := Aside0.mk (Kd.S_below (by (with_reducible repeat (first | apply Kd.S_alloc | apply Kd.S_drewN | apply Kd.S_drew)); exact HO309.out) hb)
              have n1_ := Aside0.mk (Kd.S_below (by (with_reducible repeat (first | apply Kd.S_alloc | apply Kd.S_drewN | apply Kd.S_drew)); exact HO313.out) hb)
              have n2_ := Aside0.mk (blk_below (g := gb305) (o := .cells #[.int .i64 a0_0, .int .i64 a0_1, .int .i64 a0_2, .int .i64 a0_3] 23 (0, 0)) bk_ hb)
              have n3_ := Aside0.mk (blk_below (g := gb306) (o := .cells #[.int .i64 a2_0, .int .i64 a2_1, .int .i64 a2_2, .int .i64 a2_3] 23 (0, 0)) bk_ hb)
              have n4_ := Aside0.mk (below_step bw_ hb)
              clear HO309
              clear HO313
              clear BK305
              clear BK306
              clear HB
              have HO309 := n0_
              have HO313 := n1_
              have BK305 := n2_
              have BK306 := n3_
              have HB := n4_
              clear n0_ n1_ n2_ n3_ n4_
              (try clear hb); (try clear hb2); (try clear hk); (try clear hi)
              refine hK.out _ _ ⟨(blk_cell BK305.out 0).trans rfl, (blk_cell BK305.out 1).trans rfl, (blk_cell BK305.out 2).trans rfl, (blk_cell BK305.out 3).trans rfl⟩ (fun hHeld => ?_)
              clear hK K
              refine norm_ (a' := ?_) ?_ ?_
              rotate_left
              ·
               show Act.put _ (some 173) _ = _
               simp only [Act.put, List.setIfInBounds_toArray, List.set_cons_zero, List.set_cons_succ, i64_w, i32_w]
               rfl
              refine pu_ 54 174 64 36028797018963967 ?_
              refine pu_ 55 175 64 72057594037927935 ?_
              refine pu_ 56 176 64 144115188075855871 ?_
              refine pu_ 57 177 64 288230376151711743 ?_
              refine pu_ 58 178 64 576460752303423487 ?_
              refine tk_ 59 179 64 1152921504606846975 hHeld ?_
              refine one_ (i := 60) (N := some 180) (pm_ 64 2305843009213693951) rfl rfl (one_of HT_.out (by kernel_rfl)) (by decide) (fun K hK => ?_)
              refine goes_ Tryd.func11 (by kernel_rfl) rfl #[.agg #[.int .i64 a0_0, .int .i64 a0_1, .int .i64 a0_2, .int .i64 a0_3]] (by rfl) rfl rfl (by (try simp only [List.map_toArray, List.map_cons, List.map_nil]); first | done | rfl | (simp only [List.length_drop, List.length_take]; rfl)) ?_
              with_reducible refine (impl_IsChase.calls a0_0 a0_1 a0_2 a0_3 t330 _ A41.out).mono ?_
              rintro e w47 ⟨rfl, hb⟩
              refine ⟨_, rfl, ?_⟩
              have n0_ := Aside0.mk (Kd.S_below (by (with_reducible repeat (first | apply Kd.S_alloc | apply Kd.S_drewN | apply Kd.S_drew)); exact HO309.out) hb)
              have n1_ := Aside0.mk (Kd.S_below (by (with_reducible repeat (first | apply Kd.S_alloc | apply Kd.S_drewN | apply Kd.S_drew)); exact HO313.out) hb)
              have n2_ := Aside0.mk (blk_below (g := gb305) (o := .cells #[.int .i64 a0_0, .int .i64 a0_1, .int .i64 a0_2, .int .i64 a0_3] 23 (0, 0)) bk_ hb)
              have n3_ := Aside0.mk (blk_below (g := gb306) (o := .cells #[.int .i64 a2_0, .int .i64 a2_1, .int .i64 a2_2, .int .i64 a2_3] 23 (0, 0)) bk_ hb)
              have n4_ := Aside0.mk (below_step bw_ hb)
              clear HO309
              clear HO313
              clear BK305
              clear BK306
              clear HB
              have HO309 := n0_
              have HO313 := n1_
              have BK305 := n2_
              have BK306 := n3_
              have HB := n4_
              clear n0_ n1_ n2_ n3_ n4_
              (try clear hb); (try clear hb2); (try clear hk); (try clear hi)
              refine hK.out _ _ ⟨(blk_cell BK305.out 0).trans rfl, (blk_cell BK305.out 1).trans rfl, (blk_cell BK305.out 2).trans rfl, (blk_cell BK305.out 3).trans rfl⟩ (fun hHeld => ?_)
              clear hK K
              refine norm_ (a' := ?_) ?_ ?_
              rotate_left
              ·
               show Act.put _ (some 180) _ = _
               simp only [Act.put, List.setIfInBounds_toArray, List.set_cons_zero, List.set_cons_succ, i64_w, i32_w]
               rfl
              refine pu_ 61 181 64 4611686018427387903 ?_
              refine pu_ 62 182 64 9223372036854775807 ?_
              refine pu_ 63 183 64 18446744073709551615 ?_
              refine done_ (done_of HT_.out (by kernel_rfl)) ?_
              try go_wp2
              go_meet
              case rel => exact ⟨_, (!t330), (by first | rfl | (simp; done) | (simp [*]; done)), H', ⟨by first | omega | exact Nat.le_refl _⟩, ⟨by (with_reducible repeat (first | apply Kd.S_alloc | apply Kd.S_drewN | apply Kd.S_drew)); exact Kd.S_mono HO309.out (fun _ hk => trivial)⟩, ⟨bk_⟩, ⟨bk_⟩, ⟨bw_⟩⟩
             ·
              replace c40 := Bool.eq_false_iff.mpr c40
              subst c40
              rw [if_neg (show ¬ (false = true) by decide)] at H
              have H' := Aside0.mk H
              clear H
              try go_wp2
              have n0_ := Aside0.mk (Kd.S_drew HO309.out)
              have n1_ := Aside0.mk (Kd.S_drew HO313.out)
              have n2_ := Aside0.mk (blk_drew BK305.out)
              have n3_ := Aside0.mk (blk_drew BK306.out)
              have n4_ := Aside0.mk (below_drew1 HB.out)
              clear HO309
              clear HO313
              clear BK305
              clear BK306
              clear HB
              have HO309 := n0_
              have HO313 := n1_
              have BK305 := n2_
              have BK306 := n3_
              have HB := n4_
              clear n0_ n1_ n2_ n3_ n4_
              obtain ⟨Ao49, co49, eo49⟩ := Kd.S_slice HO309.out
              (first | subst eo49 | (injection eo49 with f1_ f2_ f3_; have f4_ := f1_.symm; have f5_ := f3_.symm; clear f1_ f2_ f3_; subst f4_; subst f5_))
              obtain ⟨Ao50, co50, eo50⟩ := Kd.S_slice HO313.out
              (first | subst eo50 | (injection eo50 with f1_ f2_ f3_; have f4_ := f1_.symm; have f5_ := f3_.symm; clear f1_ f2_ f3_; subst f4_; subst f5_))
              refine start_ (n := 64) (S := fun w' => w'.cell? ⟨gb305, 0, none⟩ = some (.int .i64 a0_0) ∧ w'.cell? ⟨gb305, 1, none⟩ = some (.int .i64 a0_1) ∧ w'.cell? ⟨gb305, 2, none⟩ = some (.int .i64 a0_2) ∧ w'.cell? ⟨gb305, 3, none⟩ = some (.int .i64 a0_3)) (ds := []) #[false, false, false, false, false, false, false, false, false, false, false, false, false, false, false, false, false, false, false, false, false, false, false, false, false, false, false, false, false, false, false, false, false, false, false, false, false, false, false, false, false, false, false, false, false, false, false, false, false, false, false, false, false, false, false, false, false, false, false, false, false, false, false, false] (by kernel_rfl) rfl rfl ⟨(blk_cell BK305.out 0).trans rfl, (blk_cell BK305.out 1).trans rfl, (blk_cell BK305.out 2).trans rfl, (blk_cell BK305.out 3).trans rfl⟩ (fun hHeld => ?_); refine with_tabW laws_FnDogsTurnOfAll.tab7 laws_FnDogsTurnOfAll.bits7 (fun HT_ HW_ => ?_)
              generalize w25.drew = w48 at HO309 HO313 BK305 BK306 HB hHeld ⊢
              refine pu_ 0 120 64 1 ?_
              refine pu_ 1 121 64 3 ?_
              refine pu_ 2 122 64 7 ?_
              refine pu_ 3 123 64 15 ?_
              refine pu_ 4 124 64 31 ?_
              refine pu_ 5 125 64 63 ?_
              refine one_ (i := 6) (N := some 126) (pm_ 64 127) rfl rfl (one_of HT_.out (by kernel_rfl)) (by decide) (fun K hK => ?_)
              refine goes_ Tryd.func10 (by kernel_rfl) rfl #[.slice Ao49 t307.length co49, .slice Ao50 t311.length co50] (by rfl) rfl rfl (by (try simp only [List.map_toArray, List.map_cons, List.map_nil]); first | done | rfl | (simp only [List.length_drop, List.length_take]; rfl)) ?_
              with_reducible refine (laws_yRows.calls k _ _ t307 _ _ t311 true _ ?side1 ?side2 ?side3 ?side4 A27.out).mono ?_
              (case side1 => repeat (first | exact (Kd.S_reads' HO309.out).2.2 | (with_reducible refine Kd.C_alloc ?_ _) | (with_reducible refine Kd.C_drewN ?_ _) | (with_reducible refine Kd.C_drew ?_)))
              (case side2 => exact (Kd.S_reads' HO309.out).2.1)
              (case side3 => repeat (first | exact (Kd.S_reads' HO313.out).2.2 | (with_reducible refine Kd.C_alloc ?_ _) | (with_reducible refine Kd.C_drewN ?_ _) | (with_reducible refine Kd.C_drew ?_)))
              (case side4 => exact (Kd.S_reads' HO313.out).2.1)
              rintro e w' ⟨rfl, ⟨nd, rfl⟩⟩
              refine ⟨_, rfl, ?_⟩
              refine hK.out _ _ ⟨(blk_cell BK305.out 0).trans rfl, (blk_cell BK305.out 1).trans rfl, (blk_cell BK305.out 2).trans rfl, (blk_cell BK305.out 3).trans rfl⟩ (fun hHeld => ?_)
              clear hK K
              refine norm_ (a' := ?_) ?_ ?_
              rotate_left
              ·
               show Act.put _ (some 126) _ = _
               simp only [Act.put, List.setIfInBounds_toArray, List.set_cons_zero, List.set_cons_succ, i64_w, i32_w]
               rfl
              refine pu_ 7 127 64 255 ?_
              refine pu_ 8 128 64 511 ?_
              refine pu_ 9 129 64 1023 ?_
              refine pu_ 10 130 64 2047 ?_
              refine pu_ 11 131 64 4095 ?_
              refine pu_ 12 132 64 8191 ?_
              refine pu_ 13 133 64 16383 ?_
              refine pu_ 14 134 64 32767 ?_
              refine pu_ 15 135 64 65535 ?_
              refine pu_ 16 136 64 131071 ?_
              refine pu_ 17 137 64 262143 ?_
              refine pu_ 18 138 64 524287 ?_
              refine pu_ 19 139 64 1048575 ?_
              refine pu_ 20 140 64 2097151 ?_
              refine pu_ 21 141 64 4194303 ?_
              refine pu_ 22 142 64 8388607 ?_
              refine pu_ 23 143 64 16777215 ?_
              refine pu_ 24 144 64 33554431 ?_
              refine pu_ 25 145 64 67108863 ?_
              refine pu_ 26 146 64 134217727 ?_
              refine pu_ 27 147 64 268435455 ?_
              refine pu_ 28 148 64 536870911 ?_
              refine pu_ 29 149 64 1073741823 ?_
              refine pu_ 30 150 64 2147483647 ?_
              refine pu_ 31 151 64 4294967295 ?_
              refine pu_ 32 152 64 8589934591 ?_
              refine pu_ 33 153 64 17179869183 ?_
              refine pu_ 34 154 64 34359738367 ?_
              refine pu_ 35 155 64 68719476735 ?_
              refine pu_ 36 156 64 137438953471 ?_
              refine pu_ 37 157 64 274877906943 ?_
              refine pu_ 38 158 64 549755813887 ?_
              refine pu_ 39 159 64 1099511627775 ?_
              refine pu_ 40 160 64 2199023255551 ?_
              refine pu_ 41 161 64 4398046511103 ?_
              refine pu_ 42 162 64 8796093022207 ?_
              refine pu_ 43 163 64 17592186044415 ?_
              refine pu_ 44 164 64 35184372088831 ?_
              refine pu_ 45 165 64 70368744177663 ?_
              refine pu_ 46 166 64 140737488355327 ?_
              refine pu_ 47 167 64 281474976710655 ?_
              refine pu_ 48 168 64 562949953421311 ?_
              refine pu_ 49 169 64 1125899906842623 ?_
              refine tk_ 50 170 64 2251799813685247 hHeld ?_
              refine tk_ 52 172 64 6755399441055743 hHeld ?_
              refine one_ (i := 51) (N := some 171) (pm_ 64 9007199254740991) rfl rfl (one_of HT_.out (by kernel_rfl)) (by decide) (fun K hK => ?_)
              refine goes_ Tryd.func11 (by kernel_rfl) rfl #[.agg #[.int .i64 a0_0, .int .i64 a0_1, .int .i64 a0_2, .int .i64 a0_3]] (by rfl) rfl rfl (by (try simp only [List.map_toArray, List.map_cons, List.map_nil]); first | done | rfl | (simp only [List.length_drop, List.length_take]; rfl)) ?_
              with_reducible refine (impl_IsChase.calls a0_0 a0_1 a0_2 a0_3 t328 _ A37.out).mono ?_
              rintro e w51 ⟨rfl, hb⟩
              refine ⟨_, rfl, ?_⟩
              have n0_ := Aside0.mk (Kd.S_below (by (with_reducible repeat (first | apply Kd.S_alloc | apply Kd.S_drewN | apply Kd.S_drew)); exact HO309.out) hb)
              have n1_ := Aside0.mk (Kd.S_below (by (with_reducible repeat (first | apply Kd.S_alloc | apply Kd.S_drewN | apply Kd.S_drew)); exact HO313.out) hb)
              have n2_ := Aside0.mk (blk_below (g := gb305) (o := .cells #[.int .i64 a0_0, .int .i64 a0_1, .int .i64 a0_2, .int .i64 a0_3] 23 (0, 0)) bk_ hb)
              have n3_ := Aside0.mk (blk_below (g := gb306) (o := .cells #[.int .i64 a2_0, .int .i64 a2_1, .int .i64 a2_2, .int .i64 a2_3] 23 (0, 0)) bk_ hb)
              have n4_ := Aside0.mk (below_step bw_ hb)
              clear HO309
              clear HO313
              clear BK305
              clear BK306
              clear HB
              have HO309 := n0_
              have HO313 := n1_
              have BK305 := n2_
              have BK306 := n3_
              have HB := n4_
              clear n0_ n1_ n2_ n3_ n4_
              (try clear hb); (try clear hb2); (try clear hk); (try clear hi)
              refine hK.out _ _ ⟨(blk_cell BK305.out 0).trans rfl, (blk_cell BK305.out 1).trans rfl, (blk_cell BK305.out 2).trans rfl, (blk_cell BK305.out 3).trans rfl⟩ (fun hHeld => ?_)
              clear hK K
              refine norm_ (a' := ?_) ?_ ?_
              rotate_left
              ·
               show Act.put _ (some 171) _ = _
               simp only [Act.put, List.setIfInBounds_toArray, List.set_cons_zero, List.set_cons_succ, i64_w, i32_w]
               rfl
              refine one_ (i := 53) (N := some 173) (pm_ 64 18014398509481983) rfl rfl (one_of HT_.out (by kernel_rfl)) (by decide) (fun K hK => ?_)
              refine goes_ Tryd.func12 (by kernel_rfl) rfl #[.agg #[.int .i64 a0_0, .int .i64 a0_1, .int .i64 a0_2, .int .i64 a0_3]] (by rfl) rfl rfl (by (try simp only [List.map_toArray, List.map_cons, List.map_nil]); first | done | rfl | (simp only [List.length_drop, List.length_take]; rfl)) ?_
              with_reducible refine (spec_IsChase.calls a0_0 a0_1 a0_2 a0_3 t329 _ A38.out).mono ?_
              rintro e w52 ⟨rfl, hb⟩
              refine ⟨_, rfl, ?_⟩
              have n0_ := Aside0.mk (Kd.S_below (by (with_reducible repeat (first | apply Kd.S_alloc | apply Kd.S_drewN | apply Kd.S_drew)); exact HO309.out) hb)
              have n1_ := Aside0.mk (Kd.S_below (by (with_reducible repeat (first | apply Kd.S_alloc | apply Kd.S_drewN | apply Kd.S_drew)); exact HO313.out) hb)
              have n2_ := Aside0.mk (blk_below (g := gb305) (o := .cells #[.int .i64 a0_0, .int .i64 a0_1, .int .i64 a0_2, .int .i64 a0_3] 23 (0, 0)) bk_ hb)
              have n3_ := Aside0.mk (blk_below (g := gb306) (o := .cells #[.int .i64 a2_0, .int .i64 a2_1, .int .i64 a2_2, .int .i64 a2_3] 23 (0, 0)) bk_ hb)
              have n4_ := Aside0.mk (below_step bw_ hb)
              clear HO309
              clear HO313
              clear BK305
              clear BK306
              clear HB
              have HO309 := n0_
              have HO313 := n1_
              have BK305 := n2_
              have BK306 := n3_
              have HB := n4_
              clear n0_ n1_ n2_ n3_ n4_
              (try clear hb); (try clear hb2); (try clear hk); (try clear hi)
              refine hK.out _ _ ⟨(blk_cell BK305.out 0).trans rfl, (blk_cell BK305.out 1).trans rfl, (blk_cell BK305.out 2).trans rfl, (blk_cell BK305.out 3).trans rfl⟩ (fun hHeld => ?_)
              clear hK K
              refine norm_ (a' := ?_) ?_ ?_
              rotate_left
              ·
               show Act.put _ (some 173) _ = _
               simp only [Act.put, List.setIfInBounds_toArray, List.set_cons_zero, List.set_cons_succ, i64_w, i32_w]
               rfl
              refine pu_ 54 174 64 36028797018963967 ?_
              refine pu_ 55 175 64 72057594037927935 ?_
              refine pu_ 56 176 64 144115188075855871 ?_
              refine pu_ 57 177 64 288230376151711743 ?_
              refine pu_ 58 178 64 576460752303423487 ?_
              refine po_ 59 179 64 1152921504606846975 ?_
              refine po_ 60 180 64 2305843009213693951 ?_
              refine po_ 61 181 64 4611686018427387903 ?_
              refine pu_ 62 182 64 9223372036854775807 ?_
              refine pu_ 63 183 64 18446744073709551615 ?_
              refine done_ (done_of HT_.out (by kernel_rfl)) ?_
              try go_wp2
              go_meet
              case rel => exact ⟨_, (false), (by first | rfl | (simp; done) | (simp [*]; done)), H', ⟨by first | omega | exact Nat.le_refl _⟩, ⟨by (with_reducible repeat (first | apply Kd.S_alloc | apply Kd.S_drewN | apply Kd.S_drew)); exact Kd.S_mono HO309.out (fun _ hk => trivial)⟩, ⟨bk_⟩, ⟨bk_⟩, ⟨bw_⟩⟩
         ·
          rw [if_neg c34] at H
          have c34b0 : (t322 == t325) = false := beq_eq_false_iff_ne.mpr c34
          have c34b1 : (t322 != t325) = true := bne_iff_ne.mpr c34
          exact absurd (H.trans (congrArg some HRT.out)) (by cases k <;> simp [laws_FnDogsTurnOfAll.j0])
        ·
         rw [if_neg c33] at H
         have c33b0 : (t321 == t324) = false := beq_eq_false_iff_ne.mpr c33
         have c33b1 : (t321 != t324) = true := bne_iff_ne.mpr c33
         exact absurd (H.trans (congrArg some HRT.out)) (by cases k <;> simp [laws_FnDogsTurnOfAll.j0])
      ·
       rw [if_neg c31] at H
       have c31b0 : (t316 == t319) = false := beq_eq_false_iff_ne.mpr c31
       have c31b1 : (t316 != t319) = true := bne_iff_ne.mpr c31
       exact absurd (H.trans (congrArg some HRT.out)) (by cases k <;> simp [laws_FnDogsTurnOfAll.j0])
     ·
      rw [if_neg c30] at H
      have c30b0 : (t315 == t318) = false := beq_eq_false_iff_ne.mpr c30
      have c30b1 : (t315 != t318) = true := bne_iff_ne.mpr c30
      exact absurd (H.trans (congrArg some HRT.out)) (by cases k <;> simp [laws_FnDogsTurnOfAll.j0])
   ·
    replace c28 := Bool.eq_false_iff.mpr c28
    subst c28
    rw [if_neg (show ¬ (false = true) by decide)] at H
    exact absurd (H.trans (congrArg some HRT.out)) (by cases k <;> simp [laws_FnDogsTurnOfAll.j0])
end Go.Proofs.YtajlcomankjcjaaDoor.PFnDogsTurnOfAll
