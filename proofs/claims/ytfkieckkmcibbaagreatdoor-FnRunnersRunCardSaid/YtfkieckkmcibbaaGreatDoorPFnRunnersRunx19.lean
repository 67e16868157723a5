-- Laid by a program of this session's (wip/gen/printp.sh): the functions that the law reaches, each with its walk.
import Derived.Test.YtfkieckkmcibbaaGreatDoorPFnRunnersRunx0
import Derived.Test.YtfkieckkmcibbaaGreatDoorPFnRunnersRunx2
import Derived.Test.YtfkieckkmcibbaaGreatDoorPFnRunnersRunx3
import Derived.Test.YtfkieckkmcibbaaGreatDoorPFnRunnersRunx5
import Derived.Test.YtfkieckkmcibbaaGreatDoorPFnRunnersRunx6
import Derived.Test.YtfkieckkmcibbaaGreatDoorPFnRunnersRunx7
import Derived.Test.YtfkieckkmcibbaaGreatDoorPFnRunnersRunx8
import Derived.Test.YtfkieckkmcibbaaGreatDoorPFnRunnersRunx9
import Derived.Test.YtfkieckkmcibbaaGreatDoorPFnRunnersRunx10
import Derived.Test.YtfkieckkmcibbaaGreatDoorPFnRunnersRunx11
import Derived.Test.YtfkieckkmcibbaaGreatDoorPFnRunnersRunx12
import Derived.Test.YtfkieckkmcibbaaGreatDoorPFnRunnersRunx13
import Derived.Test.YtfkieckkmcibbaaGreatDoorPFnRunnersRunx14
import Derived.Test.YtfkieckkmcibbaaGreatDoorPFnRunnersRunx15
import Derived.Test.YtfkieckkmcibbaaGreatDoorPFnRunnersRunx16
import Derived.Test.YtfkieckkmcibbaaGreatDoorPFnRunnersRunx17
import Derived.Test.YtfkieckkmcibbaaGreatDoorPFnRunnersRunx18
namespace Go.Proofs.YtfkieckkmcibbaaGreatDoor.PFnRunnersRun
open Go.RowKit Go.Proofs.YtfkieckkmcibbaaGreatDoorW.PrintWords Go.Proofs.YtfkieckkmcibbaaGreatDoorW.PrintLast Go.Proofs.YtfkieckkmcibbaaGreatDoorW.PrintMore
attribute [local go_sem] max2_int min2_int max_two min_two max_three min_three max_four min_four   -- for this text's walks alone
set_option linter.unusedVariables false
set_option linter.unusedSimpArgs false
set_option maxHeartbeats 80000000 in
set_option maxRecDepth 100000 in
theorem laws_FnRunnersRun.case1 (k : Nat) (A0 : Option Addr) (c0 : Nat) (l0 : List Int) (A1 : Option Addr) (c1 : Nat) (l1 : List Int) (r : Bool) (w : World) : (laws_FnRunnersRun.part k A0 c0 l0 A1 c1 l1 r w).1 := by
      intro hL0 HRT hu35 HR0 HC0 HR1 HC1 A3 t603 t604 t605 A5 t608 t609 A6 t612 t613 A7 z1_ nd z2_ w9 Ao10 co10 w11 v610 w12 v614 HO615 z3_ HO607 HO611 wc u117 u118 u119 u120 u121 u122 u123 u124 HO_6 HO_8 HB kj7 HJ7 HC18 z4_ z5_ z6_ z7_ z8_ z9_
      have H := HC18.out
      clear HC18
      by_cases c19 : t609 = true
      ·
       subst c19
       rw [if_pos rfl] at H
       by_cases c20 : (t608.length : Int) = (t604.length : Int)
       ·
        rw [if_pos c20] at H
        have c20b0 : ((t608.length : Int) == (t604.length : Int)) = true := beq_iff_eq.mpr c20
        have c20b1 : ((t608.length : Int) != (t604.length : Int)) = false := bne_eq_false_iff_eq.mpr c20
        have c20b2 : (t608.length == t604.length) = true := by first | simpa using c20 | (simp at c20 ⊢; omega)
        clear c20
        (first | rw [c20b0] | (simp only [i64_w, i32_w]; rw [c20b0]) | skip)
        have H' := A_ H
        clear H
        obtain ⟨Ao21, co21, eo21⟩ := Kd.R_slice HO_8.out
        subst eo21
        go_wp2
        go_loopg [134] kj7 (fun kq v134 w' => ∃ (x134_2 : Int), v134 = .int .i64 x134_2 ∧ Aside0 (laws_FnRunnersRun.l0 kq l1 t603 t604 t605 t608 t608 (t608.length : Int) x134_2 = some r) ∧ Aside0 (kq ≤ kj7) ∧ Aside0 (Kd.R k35 35 w' w.heap.size (fun _ => True) (.slice Ao10 t604.length co10) t604) ∧ Aside0 (Kd.R (Kd.int .i64) 3 w' w.heap.size (fun _ => True) (.slice Ao21 t608.length co21) t608) ∧ Aside0 (Kd.R (Kd.int .i64) 3 w' w.heap.size (fun _ => True) (.slice Ao21 t608.length co21) t608) ∧ Aside0 (Below w.heap.size w w'))
        case atStart => exact ⟨(0), (rs_), H', ⟨Nat.le_refl _⟩, ⟨by (with_reducible repeat (first | apply Kd.R_alloc | apply Kd.R_drewN | apply Kd.R_drew)); exact HO_6.out⟩, ⟨by (with_reducible repeat (first | apply Kd.R_alloc | apply Kd.R_drewN | apply Kd.R_drew)); exact HO_8.out⟩, ⟨by (with_reducible repeat (first | apply Kd.R_alloc | apply Kd.R_drewN | apply Kd.R_drew)); exact HO_8.out⟩, ⟨bw_⟩⟩
        case round => as_aux_lemma =>
         clear H'
         (try clear c1); (try clear c4); (try clear c17); (try clear c19); (try clear c20); (try clear c20b0); (try clear c20b1); (try clear c20b2)
         obtain ⟨x134_2, rfl, HA, HK2, HO_6, HO_8, HO_132, HB⟩ := hrel
         cases gk with
         | zero => exact absurd HA.out (by simp [laws_FnRunnersRun.l0])
         | succ k2 =>
          have H := HA.out
          clear HA
          simp only [laws_FnRunnersRun.l0] at H
          by_cases c22 : x134_2 < (t608.length : Int)
          ·
           rw [if_pos c22] at H
           replace c22 := decide_eq_true c22
           by_cases c23 : 0 ≤ x134_2
           ·
            rw [if_pos c23] at H
            replace c23 := decide_eq_true c23
            by_cases c24 : x134_2 < (t608.length : Int)
            ·
             rw [if_pos c24] at H
             replace c24 := decide_eq_true c24
             have HC25 := A_ H
             clear H
             have p617 : 0 ≤ (x134_2 : Int) := of_decide_eq_true (by first | (with_reducible assumption) | assumption)
             have q617 : x134_2 < (t608.length : Int) := of_decide_eq_true (by first | (with_reducible assumption) | assumption)
             obtain ⟨ad617, e617, hx617_0⟩ := Kd.at_int (Kd.R_reads' HO_132.out).2.2 x134_2 p617 q617
             cases e617
             replace p617 := eq_true p617
             replace q617 := eq_true q617
             go_upto_region 14 with (fail)
             go_cut [153] from 139 to 153 (fun v153 wc => ∃ (kq : Nat) (x153_24 : Bool), v153 = .bool x153_24 ∧ Aside0 (laws_FnRunnersRun.j2 kq l1 t603 t604 t605 t608 x134_2 (rd t608 x134_2) t608 (t608.length : Int) x134_2 x153_24 = some r) ∧ Aside0 (kq ≤ k2) ∧ Aside0 (Kd.R k35 35 wc w.heap.size (fun _ => True) (.slice Ao10 t604.length co10) t604) ∧ Aside0 (Kd.R (Kd.int .i64) 3 wc w.heap.size (fun _ => True) (.slice (some ad617) t608.length co21) t608) ∧ Aside0 (Kd.R (Kd.int .i64) 3 wc w.heap.size (fun _ => True) (.slice (some ad617) t608.length co21) t608) ∧ Aside0 (Below w.heap.size w wc))
             case first => as_aux_lemma =>
              have H := HC25.out
              clear HC25
              by_cases c26 : (rd t608 x134_2) < 0
              ·
               rw [if_pos c26] at H
               have c26b0 : decide ((rd t608 x134_2) < 0) = true := decide_eq_true c26
               clear c26
               (first | rw [c26b0] | (simp only [i64_w, i32_w]; rw [c26b0]) | skip)
               exact absurd (H.trans (congrArg some HRT.out)) (by cases k2 <;> simp [laws_FnRunnersRun.j2])
              ·
               rw [if_neg c26] at H
               have c26b0 : decide ((rd t608 x134_2) < 0) = false := decide_eq_false c26
               clear c26
               (first | rw [c26b0] | (simp only [i64_w, i32_w]; rw [c26b0]) | skip)
               by_cases c27 : (rd t608 x134_2) ≥ (t604.length : Int)
               ·
                rw [if_pos c27] at H
                replace c27 := decide_eq_true (ge_iff_le.mp c27)
                exact absurd (H.trans (congrArg some HRT.out)) (by cases k2 <;> simp [laws_FnRunnersRun.j2])
               ·
                rw [if_neg c27] at H
                replace c27 := decide_eq_false (mt ge_iff_le.mpr c27)
                have c28b0 := eq_true (of_decide_eq_true (by first | (with_reducible assumption) | assumption) : 0 ≤ x134_2)
                by_cases c29 : x134_2 ≤ (t608.length : Int)
                ·
                 rw [if_pos c29] at H
                 have c29b0 := eq_true c29
                 have c29b1 : decide (x134_2 ≤ (t608.length : Int)) = true := decide_eq_true c29
                 clear c29
                 obtain ⟨y618, hy618⟩ : ∃ y_ : List Int, y_ = (t608.take (x134_2 : Int).toNat) := ⟨_, rfl⟩
                 replace H : ((laws_qHas.f k2 y618 (rd t608 x134_2)).bind fun t622 => (laws_FnRunnersRun.j2 k2 l1 t603 t604 t605 t608 x134_2 (rd t608 x134_2) t608 (t608.length : Int) x134_2 t622)) = some r := by first | (rw [hy618]; with_reducible exact H) | (have H2_ := (Option.bind_some _ _).symm.trans H; rw [hy618]; with_reducible exact H2_) | (have H2_ := (Option.bind_some _ _).symm.trans H; with_reducible exact H2_) | with_reducible exact H | (rw [hy618]; exact H) | exact H
                 have Ny618 := A_ hy618
                 clear hy618
                 replace H := ob_ H
                 obtain ⟨t622, A30, H⟩ := H
                 (try dsimp only at H)
                 have H' := A_ H
                 clear H
                 have q31 : (x134_2 : Int) ≤ ((t608.length : Int) : Int) := of_decide_eq_true (by first | (with_reducible assumption) | assumption)
                 obtain ⟨i031, hi031, _, hsz31, _⟩ := info_parts info3
                 have hroom31 : t608.length ≤ co21 := (Kd.R_reads' HO_8.out).2.1
                 have hC31 : Kd.C (Kd.int .i64) _ (some ad617) t608.length t608 := (Kd.R_reads' HO_8.out).2.2
                 have hcut31 := cut_to (P := Tryz.prog) 27 3 .i64 Tryz.underlying27 hi031 (some ad617) t608.length co21 x134_2 (of_decide_eq_true (by first | (with_reducible assumption) | assumption)) q31 hroom31
                 have hr31 := Kd.C_take (m := (x134_2 : Int).toNat) hC31 (by omega)
                 have hy31 : y618.length = (x134_2 : Int).toNat := (by rw [Ny618.out, List.length_take]; omega)
                 rw [← Ny618.out] at hr31
                 rw [← hy31] at hcut31
                 have HR621 := A_ hr31
                 have HC621 := A_ (show y618.length ≤ co21 from by omega)
                 clear hr31 hC31 hroom31 hi031 hsz31
                 have KY31 := A_ hy31
                 clear hy31
                 have KL31 := A_ (show (x134_2 : Int).toNat ≤ t608.length from by omega)
                 replace q31 := eq_true q31
                 go_wp2_with (first | (go_at_call 9; (with_reducible refine (laws_qHas.calls k2 _ _ y618 (rd t608 x134_2) t622 _ ?side1 ?side2 A30.out).mono ?_); (case side1 => repeat (first | exact (by repeat (first | (with_reducible exact HR621.out) | (with_reducible refine Kd.C_alloc ?_ _) | (with_reducible refine Kd.C_drewN ?_ _) | (with_reducible refine Kd.C_drew ?_) | exact HR621.out)) | (with_reducible refine Kd.C_alloc ?_ _) | (with_reducible refine Kd.C_drewN ?_ _) | (with_reducible refine Kd.C_drew ?_))); (case side2 => exact HC621.out); rintro e w' ⟨rfl, ⟨nd, rfl⟩⟩))
                 go_meet
                 case rel => exact ⟨_, (t622), (rs_), H', ⟨by have := HJ7.out; have := HK2.out; first | omega | exact Nat.le_refl _⟩, ⟨by (with_reducible repeat (first | apply Kd.R_alloc | apply Kd.R_drewN | apply Kd.R_drew)); exact HO_6.out⟩, ⟨by (with_reducible repeat (first | apply Kd.R_alloc | apply Kd.R_drewN | apply Kd.R_drew)); exact HO_8.out⟩, ⟨by (with_reducible repeat (first | apply Kd.R_alloc | apply Kd.R_drewN | apply Kd.R_drew)); exact HO_132.out⟩, ⟨bw_⟩⟩
                ·
                 rw [if_neg c29] at H
                 exact absurd H (by simp)
             case rest => as_aux_lemma =>
              clear HC25
              (try clear c1); (try clear c4); (try clear c17); (try clear c19); (try clear c20); (try clear c20b0); (try clear c20b1); (try clear c20b2); (try clear c22); (try clear c22b0); (try clear c23); (try clear c23b0); (try clear c24); (try clear c24b0); (try clear hx617_0); (try clear p617); (try clear q617)
              obtain ⟨kq, x153_24, rfl, HA, HJ24, HO_6, HO_8, HO_132, HB⟩ := hcut
              cases kq with
              | zero => exact absurd HA.out (by simp [laws_FnRunnersRun.j2])
              | succ kj24 =>
               have H := HA.out
               clear HA
               simp only [laws_FnRunnersRun.j2] at H
               by_cases c32 : x153_24 = true
               ·
                subst c32
                rw [if_pos rfl] at H
                exact absurd ((Option.some.inj H).trans HRT.out) (by decide)
               ·
                replace c32 := Bool.eq_false_iff.mpr c32
                subst c32
                rw [if_neg (show ¬ (false = true) by decide)] at H
                by_cases c33 : x134_2 > 0
                ·
                 rw [if_pos c33] at H
                 replace c33 := decide_eq_true (gt_iff_lt.mp c33)
                 obtain ⟨ji34, hji34⟩ : ∃ j_ : Int, (wrap64 (x134_2 - 1)) = j_ := ⟨_, rfl⟩
                 replace H : (if 0 ≤ (ji34) then (if (ji34) < (t608.length : Int) then (if 0 ≤ (rd t608 (ji34)) then (if (rd t608 (ji34)) < (t604.length : Int) then (if 0 ≤ (rd t608 x134_2) then (if (rd t608 x134_2) < (t604.length : Int) then ((impl_LeadBetween.f kj24 t603 ((rd_T35 t604 (rd t608 (ji34))).f0) ((rd_T35 t604 (rd t608 (ji34))).f1) ((rd_T35 t604 (rd t608 x134_2)).f0) ((rd_T35 t604 (rd t608 x134_2)).f1) t605).bind fun bt626 => (if bt626.2 = true then (if bt626.1 < 0 then (some false) else (if bt626.1 = 0 then (if (rd t608 (ji34)) > (rd t608 x134_2) then (some false) else (laws_FnRunnersRun.l0 kj24 l1 t603 t604 t605 t608 t608 (t608.length : Int) (wrap64 (x134_2 + 1)))) else (laws_FnRunnersRun.l0 kj24 l1 t603 t604 t605 t608 t608 (t608.length : Int) (wrap64 (x134_2 + 1))))) else (some false))) else (none)) else (none)) else (none)) else (none)) else (none)) else (none)) = some r := by first | (rw [hji34] at H; exact H) | (simp only [hji34] at H ⊢; exact H)
                 have hji34w : (IntKind.i64.wrap (x134_2 - 1)) = ji34 := (i64_w _).trans hji34
                 by_cases c35 : 0 ≤ (ji34)
                 ·
                  rw [if_pos c35] at H
                  replace c35 := decide_eq_true c35
                  by_cases c36 : (ji34) < (t608.length : Int)
                  ·
                   rw [if_pos c36] at H
                   replace c36 := decide_eq_true c36
                   by_cases c37 : 0 ≤ (rd t608 (ji34))
                   ·
                    rw [if_pos c37] at H
                    replace c37 := decide_eq_true c37
                    by_cases c38 : (rd t608 (ji34)) < (t604.length : Int)
                    ·
                     rw [if_pos c38] at H
                     replace c38 := decide_eq_true c38
                     by_cases c39 : 0 ≤ (rd t608 x134_2)
                     ·
                      rw [if_pos c39] at H
                      replace c39 := decide_eq_true c39
                      by_cases c40 : (rd t608 x134_2) < (t604.length : Int)
                      ·
                       rw [if_pos c40] at H
                       replace c40 := decide_eq_true c40
                       replace H := ob_ H
                       obtain ⟨⟨t626, t627⟩, A41, H⟩ := H
                       (try dsimp only at H)
                       by_cases c42 : t627 = true
                       ·
                        subst c42
                        rw [if_pos rfl] at H
                        by_cases c43 : t626 < 0
                        ·
                         rw [if_pos c43] at H
                         replace c43 := decide_eq_true c43
                         exact absurd ((Option.some.inj H).trans HRT.out) (by decide)
                        ·
                         rw [if_neg c43] at H
                         replace c43 := decide_eq_false c43
                         by_cases c44 : t626 = 0
                         ·
                          rw [if_pos c44] at H
                          have c44b0 : (t626 == 0) = true := beq_iff_eq.mpr c44
                          have c44b1 : (t626 != 0) = false := bne_eq_false_iff_eq.mpr c44
                          clear c44
                          by_cases c45 : (rd t608 (ji34)) > (rd t608 x134_2)
                          ·
                           rw [if_pos c45] at H
                           replace c45 := decide_eq_true (gt_iff_lt.mp c45)
                           exact absurd ((Option.some.inj H).trans HRT.out) (by decide)
                          ·
                           rw [if_neg c45] at H
                           replace c45 := decide_eq_false (mt gt_iff_lt.mpr c45)
                           have H' := A_ H
                           clear H
                           try go_wp2
                           replace HO_6 := A_ (Kd.R_drew HO_6.out)
                           replace HO_8 := A_ (Kd.R_drew HO_8.out)
                           replace HO_132 := A_ (Kd.R_drew HO_132.out)
                           replace HB := A_ (below_drew1 HB.out)
                           have p623 : 0 ≤ ((ji34) : Int) := of_decide_eq_true (by first | (with_reducible assumption) | assumption)
                           have q623 : (ji34) < (t608.length : Int) := of_decide_eq_true (by first | (with_reducible assumption) | assumption)
                           obtain ⟨ad623, e623, hx623_0⟩ := Kd.at_int (Kd.R_reads' HO_8.out).2.2 (ji34) p623 q623
                           obtain rfl : ad617 = ad623 := (by injection e623)
                           replace p623 := eq_true p623
                           replace q623 := eq_true q623
                           have p624 : 0 ≤ ((rd t608 (ji34)) : Int) := of_decide_eq_true (by first | (with_reducible assumption) | assumption)
                           have q624 : (rd t608 (ji34)) < (t604.length : Int) := of_decide_eq_true (by first | (with_reducible assumption) | assumption)
                           obtain ⟨ad624, e624, hx624_0, hx624_1⟩ := at_T35 (Kd.R_reads' HO_6.out).2.2 (rd t608 (ji34)) p624 q624
                           cases e624
                           replace p624 := eq_true p624
                           replace q624 := eq_true q624
                           have p625 : 0 ≤ ((rd t608 x134_2) : Int) := of_decide_eq_true (by first | (with_reducible assumption) | assumption)
                           have q625 : (rd t608 x134_2) < (t604.length : Int) := of_decide_eq_true (by first | (with_reducible assumption) | assumption)
                           obtain ⟨ad625, e625, hx625_0, hx625_1⟩ := at_T35 (Kd.R_reads' HO_6.out).2.2 (rd t608 x134_2) p625 q625
                           obtain rfl : ad624 = ad625 := (by injection e625)
                           replace p625 := eq_true p625
                           replace q625 := eq_true q625
                           refine start_ (n := 20) (S := fun w' => w'.cell? (ad617.add ((ji34)).toNat) = some (.int .i64 (rd t608 (ji34))) ∧ w'.cell? (ad624.add (((rd t608 (ji34))).toNat * 2)) = some (.int .i64 ((rd_T35 t604 (rd t608 (ji34))).f0)) ∧ w'.cell? ⟨(ad624.add (((rd t608 (ji34))).toNat * 2)).block, (ad624.add (((rd t608 (ji34))).toNat * 2)).off + 1, none⟩ = some (.int .i64 ((rd_T35 t604 (rd t608 (ji34))).f1)) ∧ w'.cell? (ad624.add (((rd t608 x134_2)).toNat * 2)) = some (.int .i64 ((rd_T35 t604 (rd t608 x134_2)).f0)) ∧ w'.cell? ⟨(ad624.add (((rd t608 x134_2)).toNat * 2)).block, (ad624.add (((rd t608 x134_2)).toNat * 2)).off + 1, none⟩ = some (.int .i64 ((rd_T35 t604 (rd t608 x134_2)).f1))) (ds := []) #[false, false, false, false, false, false, false, false, false, false, false, false, false, false, false, false, false, false, false, false] (by kernel_rfl) rfl rfl ⟨hx623_0, hx624_0, hx624_1, hx625_0, hx625_1⟩ (fun hHeld => ?_); refine with_tabW laws_FnRunnersRun.tab17 laws_FnRunnersRun.bits17 (fun HT_ HW_ => ?_)
                           generalize wc.drew = w46 at HO_6 HO_8 HO_132 HB hx623_0 hx624_0 hx624_1 hx625_0 hx625_1 hHeld ⊢
                           refine pu_ 0 157 20 1 ?_
                           refine pu_ 1 158 20 3 ?_
                           refine pu_ 2 159 20 7 ?_
                           refine pu_ 3 160 20 15 ?_
                           refine pu_ 4 161 20 31 ?_
                           refine pu_ 5 162 20 63 ?_
                           refine pu_ 9 166 20 575 ?_
                           refine pu_ 10 167 20 1599 ?_
                           refine pu_ 11 168 20 3647 ?_
                           refine pu_ 13 170 20 11839 ?_
                           refine tk_ 6 163 20 11903 hHeld ?_
                           refine pu_ 7 164 20 12031 ?_
                           refine tk_ 8 165 20 12287 hHeld ?_
                           refine tk_ 12 169 20 16383 hHeld ?_
                           refine one_ (i := 14) (N := some 171) (pm_ 20 32767) rfl rfl (one_of HT_.out (by kernel_rfl)) (by decide) (fun K hK => ?_)
                           refine goes_ Tryz.func10 (by kernel_rfl) rfl #[.int .i64 t603, .agg #[.int .i64 ((rd_T35 t604 (rd t608 (ji34))).f0), .int .i64 ((rd_T35 t604 (rd t608 (ji34))).f1)], .agg #[.int .i64 ((rd_T35 t604 (rd t608 x134_2)).f0), .int .i64 ((rd_T35 t604 (rd t608 x134_2)).f1)], .int .i64 t605] (by rfl) rfl rfl (by (try simp only [List.map_toArray, List.map_cons, List.map_nil]); first | done | (simp only [hji34]; rfl) | rfl | (simp only [List.length_drop, List.length_take]; rfl)) ?_
                           with_reducible refine (impl_LeadBetween.calls kj24 t603 ((rd_T35 t604 (rd t608 (ji34))).f0) ((rd_T35 t604 (rd t608 (ji34))).f1) ((rd_T35 t604 (rd t608 x134_2)).f0) ((rd_T35 t604 (rd t608 x134_2)).f1) t605 t626 true _ A41.out).mono ?_
                           rintro e w47 ⟨rfl, hb⟩
                           have HS0_ := (hb.cell (World.block_lt_of_cell? _ _ (hHeld.1))).trans (hHeld.1)
                           have HS1_ := (hb.cell (World.block_lt_of_cell? _ _ (hHeld.2.1))).trans (hHeld.2.1)
                           have HS2_ := (hb.cell (World.block_lt_of_cell? _ _ (hHeld.2.2.1))).trans (hHeld.2.2.1)
                           have HS3_ := (hb.cell (World.block_lt_of_cell? _ _ (hHeld.2.2.2.1))).trans (hHeld.2.2.2.1)
                           have HS4_ := (hb.cell (World.block_lt_of_cell? _ _ (hHeld.2.2.2.2))).trans (hHeld.2.2.2.2)
                           refine ⟨_, rfl, ?_⟩
                           replace HB := A_ (below_step bw_ hb)
                           replace HO_6 := A_ (Kd.R_below (by (with_reducible repeat (first | apply Kd.R_alloc | apply Kd.R_drewN | apply Kd.R_drew)); exact HO_6.out) hb)
                           replace HO_8 := A_ (Kd.R_below (by (with_reducible repeat (first | apply Kd.R_alloc | apply Kd.R_drewN | apply Kd.R_drew)); exact HO_8.out) hb)
                           replace HO_132 := A_ (Kd.R_below (by (with_reducible repeat (first | apply Kd.R_alloc | apply Kd.R_drewN | apply Kd.R_drew)); exact HO_132.out) hb)
                           skip
                           refine hK.out _ _ ⟨HS0_, HS1_, HS2_, HS3_, HS4_⟩ (fun hHeld => ?_)
                           clear hK K
                           refine norm_ (a' := ?_) ?_ ?_
                           rotate_left
                           ·
                            show Act.put _ (some 171) _ = _
                            simp only [Act.put, List.setIfInBounds_toArray, List.set_cons_zero, List.set_cons_succ, i64_w, i32_w]
                            rfl
                           refine pu_ 15 156 20 65535 ?_
                           refine pu_ 16 172 20 131071 ?_
                           refine pu_ 17 173 20 262143 ?_
                           refine pu_ 18 14 20 524287 ?_
                           refine pu_ 19 15 20 1048575 ?_
                           refine done_ (done_of HT_.out (by kernel_rfl)) ?_
                           have p628 : 0 ≤ ((ji34) : Int) := of_decide_eq_true (by first | (with_reducible assumption) | assumption)
                           have q628 : (ji34) < (t608.length : Int) := of_decide_eq_true (by first | (with_reducible assumption) | assumption)
                           obtain ⟨ad628, e628, hx628_0⟩ := Kd.at_int (Kd.R_reads' HO_8.out).2.2 (ji34) p628 q628
                           obtain rfl : ad617 = ad628 := (by injection e628)
                           replace p628 := eq_true p628
                           replace q628 := eq_true q628
                           try go_wp2
                           go_roundg kj24
                           case measure => have := HJ7.out; have := HK2.out; have := HJ24.out; omega
                           case rel => exact ⟨(wrap64 (x134_2 + 1)), (rs_), H', ⟨by have := HJ7.out; have := HK2.out; have := HJ24.out; omega⟩, ⟨by (with_reducible repeat (first | apply Kd.R_alloc | apply Kd.R_drewN | apply Kd.R_drew)); exact HO_6.out⟩, ⟨by (with_reducible repeat (first | apply Kd.R_alloc | apply Kd.R_drewN | apply Kd.R_drew)); exact HO_8.out⟩, ⟨by (with_reducible repeat (first | apply Kd.R_alloc | apply Kd.R_drewN | apply Kd.R_drew)); exact HO_132.out⟩, ⟨bw_⟩⟩
                         ·
                          rw [if_neg c44] at H
                          have c44b0 : (t626 == 0) = false := beq_eq_false_iff_ne.mpr c44
                          have c44b1 : (t626 != 0) = true := bne_iff_ne.mpr c44
                          have H' := A_ H
                          clear H
                          try go_wp2
                          replace HO_6 := A_ (Kd.R_drew HO_6.out)
                          replace HO_8 := A_ (Kd.R_drew HO_8.out)
                          replace HO_132 := A_ (Kd.R_drew HO_132.out)
                          replace HB := A_ (below_drew1 HB.out)
                          have p623 : 0 ≤ ((ji34) : Int) := of_decide_eq_true (by first | (with_reducible assumption) | assumption)
                          have q623 : (ji34) < (t608.length : Int) := of_decide_eq_true (by first | (with_reducible assumption) | assumption)
                          obtain ⟨ad623, e623, hx623_0⟩ := Kd.at_int (Kd.R_reads' HO_8.out).2.2 (ji34) p623 q623
                          obtain rfl : ad617 = ad623 := (by injection e623)
                          replace p623 := eq_true p623
                          replace q623 := eq_true q623
                          have p624 : 0 ≤ ((rd t608 (ji34)) : Int) := of_decide_eq_true (by first | (with_reducible assumption) | assumption)
                          have q624 : (rd t608 (ji34)) < (t604.length : Int) := of_decide_eq_true (by first | (with_reducible assumption) | assumption)
                          obtain ⟨ad624, e624, hx624_0, hx624_1⟩ := at_T35 (Kd.R_reads' HO_6.out).2.2 (rd t608 (ji34)) p624 q624
                          cases e624
                          replace p624 := eq_true p624
                          replace q624 := eq_true q624
                          have p625 : 0 ≤ ((rd t608 x134_2) : Int) := of_decide_eq_true (by first | (with_reducible assumption) | assumption)
                          have q625 : (rd t608 x134_2) < (t604.length : Int) := of_decide_eq_true (by first | (with_reducible assumption) | assumption)
                          obtain ⟨ad625, e625, hx625_0, hx625_1⟩ := at_T35 (Kd.R_reads' HO_6.out).2.2 (rd t608 x134_2) p625 q625
                          obtain rfl : ad624 = ad625 := (by injection e625)
                          replace p625 := eq_true p625
                          replace q625 := eq_true q625
                          refine start_ (n := 20) (S := fun w' => w'.cell? (ad617.add ((ji34)).toNat) = some (.int .i64 (rd t608 (ji34))) ∧ w'.cell? (ad624.add (((rd t608 (ji34))).toNat * 2)) = some (.int .i64 ((rd_T35 t604 (rd t608 (ji34))).f0)) ∧ w'.cell? ⟨(ad624.add (((rd t608 (ji34))).toNat * 2)).block, (ad624.add (((rd t608 (ji34))).toNat * 2)).off + 1, none⟩ = some (.int .i64 ((rd_T35 t604 (rd t608 (ji34))).f1)) ∧ w'.cell? (ad624.add (((rd t608 x134_2)).toNat * 2)) = some (.int .i64 ((rd_T35 t604 (rd t608 x134_2)).f0)) ∧ w'.cell? ⟨(ad624.add (((rd t608 x134_2)).toNat * 2)).block, (ad624.add (((rd t608 x134_2)).toNat * 2)).off + 1, none⟩ = some (.int .i64 ((rd_T35 t604 (rd t608 x134_2)).f1))) (ds := []) #[false, false, false, false, false, false, false, false, false, false, false, false, false, false, false, false, false, false, false, false] (by kernel_rfl) rfl rfl ⟨hx623_0, hx624_0, hx624_1, hx625_0, hx625_1⟩ (fun hHeld => ?_); refine with_tabW laws_FnRunnersRun.tab17 laws_FnRunnersRun.bits17 (fun HT_ HW_ => ?_)
                          generalize wc.drew = w48 at HO_6 HO_8 HO_132 HB hx623_0 hx624_0 hx624_1 hx625_0 hx625_1 hHeld ⊢
                          refine pu_ 0 157 20 1 ?_
                          refine pu_ 1 158 20 3 ?_
                          refine pu_ 2 159 20 7 ?_
                          refine pu_ 3 160 20 15 ?_
                          refine pu_ 4 161 20 31 ?_
                          refine pu_ 5 162 20 63 ?_
                          refine pu_ 9 166 20 575 ?_
                          refine pu_ 10 167 20 1599 ?_
                          refine pu_ 11 168 20 3647 ?_
                          refine pu_ 13 170 20 11839 ?_
                          refine tk_ 6 163 20 11903 hHeld ?_
                          refine pu_ 7 164 20 12031 ?_
                          refine tk_ 8 165 20 12287 hHeld ?_
                          refine tk_ 12 169 20 16383 hHeld ?_
                          refine one_ (i := 14) (N := some 171) (pm_ 20 32767) rfl rfl (one_of HT_.out (by kernel_rfl)) (by decide) (fun K hK => ?_)
                          refine goes_ Tryz.func10 (by kernel_rfl) rfl #[.int .i64 t603, .agg #[.int .i64 ((rd_T35 t604 (rd t608 (ji34))).f0), .int .i64 ((rd_T35 t604 (rd t608 (ji34))).f1)], .agg #[.int .i64 ((rd_T35 t604 (rd t608 x134_2)).f0), .int .i64 ((rd_T35 t604 (rd t608 x134_2)).f1)], .int .i64 t605] (by rfl) rfl rfl (by (try simp only [List.map_toArray, List.map_cons, List.map_nil]); first | done | (simp only [hji34]; rfl) | rfl | (simp only [List.length_drop, List.length_take]; rfl)) ?_
                          with_reducible refine (impl_LeadBetween.calls kj24 t603 ((rd_T35 t604 (rd t608 (ji34))).f0) ((rd_T35 t604 (rd t608 (ji34))).f1) ((rd_T35 t604 (rd t608 x134_2)).f0) ((rd_T35 t604 (rd t608 x134_2)).f1) t605 t626 true _ A41.out).mono ?_
                          rintro e w49 ⟨rfl, hb⟩
                          have HS0_ := (hb.cell (World.block_lt_of_cell? _ _ (hHeld.1))).trans (hHeld.1)
                          have HS1_ := (hb.cell (World.block_lt_of_cell? _ _ (hHeld.2.1))).trans (hHeld.2.1)
                          have HS2_ := (hb.cell (World.block_lt_of_cell? _ _ (hHeld.2.2.1))).trans (hHeld.2.2.1)
                          have HS3_ := (hb.cell (World.block_lt_of_cell? _ _ (hHeld.2.2.2.1))).trans (hHeld.2.2.2.1)
                          have HS4_ := (hb.cell (World.block_lt_of_cell? _ _ (hHeld.2.2.2.2))).trans (hHeld.2.2.2.2)
                          refine ⟨_, rfl, ?_⟩
                          replace HB := A_ (below_step bw_ hb)
                          replace HO_6 := A_ (Kd.R_below (by (with_reducible repeat (first | apply Kd.R_alloc | apply Kd.R_drewN | apply Kd.R_drew)); exact HO_6.out) hb)
                          replace HO_8 := A_ (Kd.R_below (by (with_reducible repeat (first | apply Kd.R_alloc | apply Kd.R_drewN | apply Kd.R_drew)); exact HO_8.out) hb)
                          replace HO_132 := A_ (Kd.R_below (by (with_reducible repeat (first | apply Kd.R_alloc | apply Kd.R_drewN | apply Kd.R_drew)); exact HO_132.out) hb)
                          skip
                          refine hK.out _ _ ⟨HS0_, HS1_, HS2_, HS3_, HS4_⟩ (fun hHeld => ?_)
                          clear hK K
                          refine norm_ (a' := ?_) ?_ ?_
                          rotate_left
                          ·
                           show Act.put _ (some 171) _ = _
                           simp only [Act.put, List.setIfInBounds_toArray, List.set_cons_zero, List.set_cons_succ, i64_w, i32_w]
                           rfl
                          refine pu_ 15 156 20 65535 ?_
                          refine pu_ 16 172 20 131071 ?_
                          refine pu_ 17 173 20 262143 ?_
                          refine pu_ 18 14 20 524287 ?_
                          refine pu_ 19 15 20 1048575 ?_
                          refine done_ (done_of HT_.out (by kernel_rfl)) ?_
                          try go_wp2
                          go_roundg kj24
                          case measure => have := HJ7.out; have := HK2.out; have := HJ24.out; omega
                          case rel => exact ⟨(wrap64 (x134_2 + 1)), (rs_), H', ⟨by have := HJ7.out; have := HK2.out; have := HJ24.out; omega⟩, ⟨by (with_reducible repeat (first | apply Kd.R_alloc | apply Kd.R_drewN | apply Kd.R_drew)); exact HO_6.out⟩, ⟨by (with_reducible repeat (first | apply Kd.R_alloc | apply Kd.R_drewN | apply Kd.R_drew)); exact HO_8.out⟩, ⟨by (with_reducible repeat (first | apply Kd.R_alloc | apply Kd.R_drewN | apply Kd.R_drew)); exact HO_132.out⟩, ⟨bw_⟩⟩
                       ·
                        replace c42 := Bool.eq_false_iff.mpr c42
                        subst c42
                        rw [if_neg (show ¬ (false = true) by decide)] at H
                        exact absurd ((Option.some.inj H).trans HRT.out) (by decide)
                      ·
                       rw [if_neg c40] at H
                       exact absurd H (by simp)
                     ·
                      rw [if_neg c39] at H
                      exact absurd H (by simp)
                    ·
                     rw [if_neg c38] at H
                     exact absurd H (by simp)
                   ·
                    rw [if_neg c37] at H
                    exact absurd H (by simp)
                  ·
                   rw [if_neg c36] at H
                   exact absurd H (by simp)
                 ·
                  rw [if_neg c35] at H
                  exact absurd H (by simp)
                ·
                 rw [if_neg c33] at H
                 replace c33 := decide_eq_false (mt gt_iff_lt.mpr c33)
                 have H' := A_ H
                 clear H
                 go_wp2
                 go_roundg kj24
                 case measure => have := HJ7.out; have := HK2.out; have := HJ24.out; omega
                 case rel => exact ⟨(wrap64 (x134_2 + 1)), (rs_), H', ⟨by have := HJ7.out; have := HK2.out; have := HJ24.out; omega⟩, ⟨by (with_reducible repeat (first | apply Kd.R_alloc | apply Kd.R_drewN | apply Kd.R_drew)); exact HO_6.out⟩, ⟨by (with_reducible repeat (first | apply Kd.R_alloc | apply Kd.R_drewN | apply Kd.R_drew)); exact HO_8.out⟩, ⟨by (with_reducible repeat (first | apply Kd.R_alloc | apply Kd.R_drewN | apply Kd.R_drew)); exact HO_132.out⟩, ⟨bw_⟩⟩
            ·
             rw [if_neg c24] at H
             exact absurd H (by simp)
           ·
            rw [if_neg c23] at H
            exact absurd H (by simp)
          ·
           rw [if_neg c22] at H
           replace c22 := decide_eq_false c22
           have H' := A_ H
           clear H
           go_wp2
           go_meet
           case rel => exact ⟨_, H', ⟨by have := HJ7.out; have := HK2.out; first | omega | exact Nat.le_refl _⟩, ⟨bw_⟩⟩
       ·
        rw [if_neg c20] at H
        have c20b0 : ((t608.length : Int) == (t604.length : Int)) = false := beq_eq_false_iff_ne.mpr c20
        have c20b1 : ((t608.length : Int) != (t604.length : Int)) = true := bne_iff_ne.mpr c20
        have c20b2 : (t608.length == t604.length) = false := by first | simpa using c20 | (simp at c20 ⊢; omega)
        (first | rw [c20b0] | (simp only [i64_w, i32_w]; rw [c20b0]) | skip)
        exact absurd ((Option.some.inj H).trans HRT.out) (by decide)
      ·
       replace c19 := Bool.eq_false_iff.mpr c19
       subst c19
       rw [if_neg (show ¬ (false = true) by decide)] at H
       have H' := A_ H
       clear H
       go_wp2
       go_meet
       case rel => exact ⟨_, H', ⟨by have := HJ7.out; first | omega | exact Nat.le_refl _⟩, ⟨bw_⟩⟩
end Go.Proofs.YtfkieckkmcibbaaGreatDoor.PFnRunnersRun
