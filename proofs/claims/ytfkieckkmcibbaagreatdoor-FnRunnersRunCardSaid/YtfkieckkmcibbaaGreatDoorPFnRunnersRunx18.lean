-- Laid by a program of this session's (wip/gen/printp.sh): the functions that the law reaches, each with its walk.
import Derived.Test.YtfkieckkmcibbaaGreatDoorPFnRunnersRunx0
import Derived.Test.YtfkieckkmcibbaaGreatDoorPFnRunnersRunx2
import Derived.Test.YtfkieckkmcibbaaGreatDoorPFnRunnersRunx3
import Derived.Test.YtfkieckkmcibbaaGreatDoorPFnRunnersRunx5
import Derived.Test.YtfkieckkmcibbaaGreatDoorPFnRunnersRunx6
import Derived.Test.YtfkieckkmcibbaaGreatDoorPFnRunnersRunx7
import Derived.Test.YtfkieckkmcibbaaGreatDoorPFnRunnersRunx8
import Derived.Test.YtfkieckkmcibbaaGreatDoorPFnRunnersRunx9
import Derived.Test.YtfkieckkmcibbaaGreatDoorPFnRunnersRunx10
import Derived.Test.YtfkieckkmcibbaaGreatDoorPFnRunnersRunx11
import Derived.Test.YtfkieckkmcibbaaGreatDoorPFnRunnersRunx12
import Derived.Test.YtfkieckkmcibbaaGreatDoorPFnRunnersRunx13
import Derived.Test.YtfkieckkmcibbaaGreatDoorPFnRunnersRunx14
import Derived.Test.YtfkieckkmcibbaaGreatDoorPFnRunnersRunx15
import Derived.Test.YtfkieckkmcibbaaGreatDoorPFnRunnersRunx16
import Derived.Test.YtfkieckkmcibbaaGreatDoorPFnRunnersRunx17
namespace Go.Proofs.YtfkieckkmcibbaaGreatDoor.PFnRunnersRun
open Go.RowKit Go.Proofs.YtfkieckkmcibbaaGreatDoorW.PrintWords Go.Proofs.YtfkieckkmcibbaaGreatDoorW.PrintLast Go.Proofs.YtfkieckkmcibbaaGreatDoorW.PrintMore
attribute [local go_sem] max2_int min2_int max_two min_two max_three min_three max_four min_four   -- for this text's walks alone
set_option linter.unusedVariables false
set_option linter.unusedSimpArgs false

structure Held1 (P : Prop) : Prop where
  out : P
set_option maxHeartbeats 80000000 in
set_option maxRecDepth 100000 in
def laws_FnRunnersRun.part (k : Nat) (A0 : Option Addr) (c0 : Nat) (l0 : List Int) (A1 : Option Addr) (c1 : Nat) (l1 : List Int) (r : Bool) (w : World) : PSigma fun P1 : Prop => PSigma fun P2 : Prop => PSigma fun P3 : Prop => (Held1 P1 → Held1 P2 → Held1 P3 → (hr0 : Kd.C (Kd.int .u8) w A0 l0.length l0) → (hc0 : l0.length ≤ c0) → (hr1 : Kd.C (Kd.int .u8) w A1 l1.length l1) → (hc1 : l1.length ≤ c1) → (h : laws_FnRunnersRun.f k l0 l1 = some r) → (hrt : r = true) → (hL0 : LaidA w) → Calls Tryz.prog 3 #[.slice A0 l0.length c0, .slice A1 l1.length c1] w fun e w' => e = .returned (.bool r) ∧ Below w.heap.size w w') := by
 apply PSigma.mk
 apply PSigma.mk
 apply PSigma.mk
 focus as_aux_lemma =>
  intro hP1 hP2 hP3 hr0 hc0 hr1 hc1 h hrt hL0
  have HRT := A_ hrt
  clear hrt
  have hu35 := Tryz.underlying35
  have HR0 := A_ hr0
  have HC0 := A_ hc0
  clear hr0 hc0
  have HR1 := A_ hr1
  have HC1 := A_ hc1
  clear hr1 hc1
  have HB := A_ (Below.refl w.heap.size w)
  have H : ((laws_big.f l0 l1).bind fun t602 => (if t602 = true then (some true) else ((spec_DrawOrderOnTrack.f k l0).bind fun bt603 => ((impl_OrderOnTrack.f bt603.1 bt603.2.1 bt603.2.2).bind fun bt608 => ((spec_OrderOnTrack.f k bt603.1 bt603.2.1 bt603.2.2).bind fun bt612 => (if (bt608.2 != bt612.2) = true then (laws_FnRunnersRun.j0 k l1 bt603.1 bt603.2.1 bt603.2.2 bt608.1 bt608.2 true) else ((laws_qSame.f k bt608.1 bt612.1).bind fun t616 => (laws_FnRunnersRun.j0 k l1 bt603.1 bt603.2.1 bt603.2.2 bt608.1 bt608.2 (!t616))))))))) = some r := h
  clear h
  replace H := ob_ H
  obtain ⟨t602, A3, H⟩ := H
  (try dsimp only at H)
  by_cases c4 : t602 = true
  ·
   clear hP1 hP2 hP3
   subst c4
   rw [if_pos rfl] at H
   obtain rfl := Option.some.inj H
   go_enter Tryz.func3, Tryz.ntmps3
   go_wp2_with (first | ((with_reducible refine gate_callee (f := 4) rfl ?_); refine gl_ (some 96) Tryz.func4 #[.slice A0 l0.length c0, .slice A1 l1.length c1] ?_; (with_reducible refine (laws_big.calls _ _ l0 _ _ l1 true _ ?side1 ?side2 ?side3 ?side4 A3.out).mono ?_); (case side1 => repeat (first | exact HR0.out | (with_reducible refine Kd.C_alloc ?_ _) | (with_reducible refine Kd.C_drewN ?_ _) | (with_reducible refine Kd.C_drew ?_))); (case side2 => exact HC0.out); (case side3 => repeat (first | exact HR1.out | (with_reducible refine Kd.C_alloc ?_ _) | (with_reducible refine Kd.C_drewN ?_ _) | (with_reducible refine Kd.C_drew ?_))); (case side4 => exact HC1.out); rintro e w' ⟨rfl, ⟨nd, rfl⟩⟩; refine ⟨_, rfl, ?_⟩))
   go_ret
   exact ⟨rt_, bw_⟩
  ·
   replace c4 := Bool.eq_false_iff.mpr c4
   subst c4
   rw [if_neg (show ¬ (false = true) by decide)] at H
   replace H := ob_ H
   obtain ⟨⟨t603, t604, t605⟩, A5, H⟩ := H
   (try dsimp only at H)
   replace H := ob_ H
   obtain ⟨⟨t608, t609⟩, A6, H⟩ := H
   (try dsimp only at H)
   replace H := ob_ H
   obtain ⟨⟨t612, t613⟩, A7, H⟩ := H
   (try dsimp only at H)
   have HC8 := A_ H
   clear H
   go_enter Tryz.func3, Tryz.ntmps3
   go_upto_region 6 with (first | ((with_reducible refine gate_callee (f := 4) rfl ?_); refine gl_ (some 96) Tryz.func4 #[.slice A0 l0.length c0, .slice A1 l1.length c1] ?_; (with_reducible refine (laws_big.calls _ _ l0 _ _ l1 false _ ?side1 ?side2 ?side3 ?side4 A3.out).mono ?_); (case side1 => repeat (first | exact HR0.out | (with_reducible refine Kd.C_alloc ?_ _) | (with_reducible refine Kd.C_drewN ?_ _) | (with_reducible refine Kd.C_drew ?_))); (case side2 => exact HC0.out); (case side3 => repeat (first | exact HR1.out | (with_reducible refine Kd.C_alloc ?_ _) | (with_reducible refine Kd.C_drewN ?_ _) | (with_reducible refine Kd.C_drew ?_))); (case side4 => exact HC1.out); rintro e w' ⟨rfl, ⟨nd, rfl⟩⟩; refine ⟨_, rfl, ?_⟩) | ((with_reducible refine gate_callee (f := 5) rfl ?_); refine gl_ (some 99) Tryz.func5 #[.slice A0 l0.length c0] ?_; (with_reducible refine (spec_DrawOrderOnTrack.calls k _ _ l0 t603 t604 t605 _ ?side1 ?side2 A5.out).mono ?_); (case side1 => repeat (first | exact HR0.out | (with_reducible refine Kd.C_alloc ?_ _) | (with_reducible refine Kd.C_drewN ?_ _) | (with_reducible refine Kd.C_drew ?_))); (case side2 => exact HC0.out); rintro e w9 ⟨v606, rfl, ho0, hb⟩; refine ⟨_, rfl, ?_⟩; have HO607 := A_ (Kd.R_lower ho0 (below_size bw_)); replace HB := A_ (below_step bw_ hb); (try clear hb); (try clear ho0); obtain ⟨Ao10, co10, eo10⟩ := Kd.R_slice HO607.out; subst eo10) | ((with_reducible refine gate_callee (f := 6) rfl ?_); refine gl_ (some 107) Tryz.func6 #[.int .i64 t603, .slice Ao10 t604.length co10, .int .i64 t605] ?_; (with_reducible refine (impl_OrderOnTrack.calls t603 _ _ t604 t605 t608 t609 _ ?side1 ?side2 A6.out).mono ?_); (case side1 => repeat (first | exact (Kd.R_reads' HO607.out).2.2 | (with_reducible refine Kd.C_alloc ?_ _) | (with_reducible refine Kd.C_drewN ?_ _) | (with_reducible refine Kd.C_drew ?_))); (case side2 => exact (Kd.R_reads' HO607.out).2.1); rintro e w11 ⟨v610, rfl, ho0, hb⟩; refine ⟨_, rfl, ?_⟩; have HO611 := A_ (Kd.R_lower ho0 (below_size bw_)); replace HB := A_ (below_step bw_ hb); replace HO607 := A_ (Kd.R_below (by (with_reducible repeat (first | apply Kd.R_alloc | apply Kd.R_drewN | apply Kd.R_drew)); exact HO607.out) hb); (try clear hb); (try clear ho0)) | ((with_reducible refine gate_callee (f := 7) rfl ?_); refine gl_ (some 114) Tryz.func7 #[.int .i64 t603, .slice Ao10 t604.length co10, .int .i64 t605] ?_; (with_reducible refine (spec_OrderOnTrack.calls k t603 _ _ t604 t605 t612 t613 _ ?side1 ?side2 A7.out).mono ?_); (case side1 => repeat (first | exact (Kd.R_reads' HO607.out).2.2 | (with_reducible refine Kd.C_alloc ?_ _) | (with_reducible refine Kd.C_drewN ?_ _) | (with_reducible refine Kd.C_drew ?_))); (case side2 => exact (Kd.R_reads' HO607.out).2.1); rintro e w12 ⟨v614, rfl, ho0, hb⟩; refine ⟨_, rfl, ?_⟩; have HO615 := A_ (Kd.R_lower (Kd.R_new' ho0 (Kd.R_lt (by (with_reducible repeat (first | apply Kd.R_alloc | apply Kd.R_drewN | apply Kd.R_drew)); exact HO611.out))) (below_size bw_)); replace HB := A_ (below_step bw_ hb); replace HO607 := A_ (Kd.R_below (by (with_reducible repeat (first | apply Kd.R_alloc | apply Kd.R_drewN | apply Kd.R_drew)); exact HO607.out) hb); replace HO611 := A_ (Kd.R_elder' (by (with_reducible repeat (first | apply Kd.R_alloc | apply Kd.R_drewN | apply Kd.R_drew)); exact HO611.out) (Kd.R_base ho0) hb); (try clear hb); (try clear ho0)))
   (try simp only [Act.put, List.setIfInBounds_toArray, List.set_cons_zero, List.set_cons_succ])
   go_cut [125] from 117 to 125 (fun v125 wc => ∃ (kq : Nat) (x125_7 : Bool), v125 = .bool x125_7 ∧ Aside0 (laws_FnRunnersRun.j0 kq l1 t603 t604 t605 t608 t609 x125_7 = some r) ∧ Aside0 (kq ≤ k) ∧ Aside0 (Kd.R k35 35 wc w.heap.size (fun _ => True) (.slice Ao10 t604.length co10) t604) ∧ Aside0 (Kd.R (Kd.int .i64) 3 wc w.heap.size (fun _ => True) v610 t608) ∧ Aside0 (Below w.heap.size w wc))
   case first => as_aux_lemma =>
    clear hP1 hP2 hP3
    have H := HC8.out
    clear HC8
    by_cases c13 : (t609 != t613) = true
    ·
     rw [if_pos c13] at H
     have c13b0 : (t609 != t613) = true := c13
     (try (have c13b1 : decide (t609 = t613) = false := by simpa using c13))
     (try (have c13b2 : (t609 == t613) = false := by simpa using c13))
     (try (have c13b3 : ¬ (t609 = t613) := by simpa using c13))
     clear c13
     (first | rw [c13b0] | (simp only [i64_w, i32_w]; rw [c13b0]) | skip)
     exact absurd (H.trans (congrArg some HRT.out)) (by cases k <;> simp [laws_FnRunnersRun.j0])
    ·
     rw [if_neg c13] at H
     have c13b0 : (t609 != t613) = false := by simpa using c13
     (try (have c13b1 : decide (t609 = t613) = true := by simpa using c13))
     (try (have c13b2 : (t609 == t613) = true := by simpa using c13))
     clear c13
     (first | rw [c13b0] | (simp only [i64_w, i32_w]; rw [c13b0]) | skip)
     replace H := ob_ H
     obtain ⟨t616, A14, H⟩ := H
     (try dsimp only at H)
     have H' := A_ H
     clear H
     obtain ⟨Ao15, co15, eo15⟩ := Kd.R_slice HO611.out
     subst eo15
     obtain ⟨Ao16, co16, eo16⟩ := Kd.R_slice HO615.out
     subst eo16
     go_wp2_with (first | (go_at_call 8; (with_reducible refine (laws_qSame.calls k _ _ t608 _ _ t612 t616 _ ?side1 ?side2 ?side3 ?side4 A14.out).mono ?_); (case side1 => repeat (first | exact (Kd.R_reads' HO611.out).2.2 | (with_reducible refine Kd.C_alloc ?_ _) | (with_reducible refine Kd.C_drewN ?_ _) | (with_reducible refine Kd.C_drew ?_))); (case side2 => exact (Kd.R_reads' HO611.out).2.1); (case side3 => repeat (first | exact (Kd.R_reads' HO615.out).2.2 | (with_reducible refine Kd.C_alloc ?_ _) | (with_reducible refine Kd.C_drewN ?_ _) | (with_reducible refine Kd.C_drew ?_))); (case side4 => exact (Kd.R_reads' HO615.out).2.1); rintro e w' ⟨rfl, ⟨nd, rfl⟩⟩))
     go_meet
     case rel => exact ⟨_, (!t616), (rs_), H', ⟨by first | omega | exact Nat.le_refl _⟩, ⟨by (with_reducible repeat (first | apply Kd.R_alloc | apply Kd.R_drewN | apply Kd.R_drew)); exact HO607.out⟩, ⟨by (with_reducible repeat (first | apply Kd.R_alloc | apply Kd.R_drewN | apply Kd.R_drew)); exact Kd.R_mono HO611.out (fun _ hk => trivial)⟩, ⟨bw_⟩⟩
   case rest => as_aux_lemma =>
    clear HC8
    (try clear c1); (try clear c4)
    obtain ⟨kq, x125_7, rfl, HA, HJ7, HO_6, HO_8, HB⟩ := hcut
    cases kq with
    | zero => exact absurd HA.out (by simp [laws_FnRunnersRun.j0])
    | succ kj7 =>
     have H := HA.out
     clear HA
     simp only [laws_FnRunnersRun.j0] at H
     by_cases c17 : x125_7 = true
     ·
      clear hP1 hP2 hP3
      subst c17
      rw [if_pos rfl] at H
      exact absurd ((Option.some.inj H).trans HRT.out) (by decide)
     ·
      replace c17 := Bool.eq_false_iff.mpr c17
      subst c17
      rw [if_neg (show ¬ (false = true) by decide)] at H
      have HC18 := A_ H
      clear H
      go_upto_if 126 with (fail)
      go_cut [] from 127 to 193 (fun wc => ∃ (kq : Nat), Aside0 (laws_FnRunnersRun.j3 kq l1 = some r) ∧ Aside0 (kq ≤ kj7) ∧ Aside0 (Below w.heap.size w wc))
      case first =>
       rename_i z1_ z2_ z3_ z4_ z5_ z6_ z7_ z8_ z9_
       revert hL0 HRT hu35 HR0 HC0 HR1 HC1 A3 t603 t604 t605 A5 t608 t609 A6 t612 t613 A7 z1_ nd z2_ w9 Ao10 co10 w11 v610 w12 v614 HO615 z3_ HO607 HO611 wc u117 u118 u119 u120 u121 u122 u123 u124 HO_6 HO_8 HB kj7 HJ7 HC18 z4_ z5_ z6_ z7_ z8_ z9_
       exact hP1.out
      case rest => as_aux_lemma =>
       clear HC18
       (try clear c1); (try clear c4)
       obtain ⟨kq, HA, HJ17, HB⟩ := hcut
       cases kq with
       | zero => exact absurd HA.out (by simp [laws_FnRunnersRun.j3])
       | succ kj17 =>
        have H := HA.out
        clear HA
        simp only [laws_FnRunnersRun.j3] at H
        replace H := ob_ H
        obtain ⟨⟨t629, t630, t631, t632⟩, A50, H⟩ := H
        (try dsimp only at H)
        replace H := ob_ H
        obtain ⟨⟨t634, t635⟩, A51, H⟩ := H
        (try dsimp only at H)
        replace H := ob_ H
        obtain ⟨⟨t636, t637⟩, A52, H⟩ := H
        (try dsimp only at H)
        replace H := ob_ H
        obtain ⟨⟨t638, t639⟩, A53, H⟩ := H
        (try dsimp only at H)
        replace H := ob_ H
        obtain ⟨⟨t640, t641⟩, A54, H⟩ := H
        (try dsimp only at H)
        replace H := ob_ H
        obtain ⟨⟨t642, t643, t644⟩, A55, H⟩ := H
        (try dsimp only at H)
        replace H := ob_ H
        obtain ⟨⟨t647, t648⟩, A56, H⟩ := H
        (try dsimp only at H)
        replace H := ob_ H
        obtain ⟨⟨t649, t650⟩, A57, H⟩ := H
        (try dsimp only at H)
        replace H := ob_ H
        obtain ⟨⟨t651, t652, t653, t654, t655, t656⟩, A58, H⟩ := H
        (try dsimp only at H)
        replace H := ob_ H
        obtain ⟨⟨t659, t660⟩, A59, H⟩ := H
        (try dsimp only at H)
        replace H := ob_ H
        obtain ⟨⟨t661, t662⟩, A60, H⟩ := H
        (try dsimp only at H)
        replace H := ob_ H
        obtain ⟨⟨t663, t664, t665⟩, A61, H⟩ := H
        (try dsimp only at H)
        replace H := ob_ H
        obtain ⟨⟨t666, t667, t668⟩, A62, H⟩ := H
        (try dsimp only at H)
        replace H := ob_ H
        obtain ⟨⟨t669, t670, t671⟩, A63, H⟩ := H
        (try dsimp only at H)
        replace H := ob_ H
        obtain ⟨⟨t674, t675⟩, A64, H⟩ := H
        (try dsimp only at H)
        replace H := ob_ H
        obtain ⟨⟨t678, t679⟩, A65, H⟩ := H
        (try dsimp only at H)
        replace H := ob_ H
        obtain ⟨⟨t682, t683, t684, t685⟩, A66, H⟩ := H
        (try dsimp only at H)
        replace H := ob_ H
        obtain ⟨⟨t688, t689⟩, A67, H⟩ := H
        (try dsimp only at H)
        replace H := ob_ H
        obtain ⟨⟨t690, t691⟩, A68, H⟩ := H
        (try dsimp only at H)
        replace H := ob_ H
        obtain ⟨t692, A69, H⟩ := H
        (try dsimp only at H)
        replace H := ob_ H
        obtain ⟨⟨t695, t696⟩, A70, H⟩ := H
        (try dsimp only at H)
        replace H := ob_ H
        obtain ⟨⟨t697, t698⟩, A71, H⟩ := H
        (try dsimp only at H)
        replace H := ob_ H
        obtain ⟨t699, A72, H⟩ := H
        (try dsimp only at H)
        replace H := ob_ H
        obtain ⟨⟨t700, t701⟩, A73, H⟩ := H
        (try dsimp only at H)
        replace H := ob_ H
        obtain ⟨⟨t704, t705⟩, A74, H⟩ := H
        (try dsimp only at H)
        have HC75 := A_ H
        clear H
        go_upto_region 46 with (first | ((with_reducible refine gate_callee (f := 11) rfl ?_); refine gl_ (some 196) Tryz.func11 #[.slice A1 l1.length c1] ?_; (with_reducible refine (spec_DrawLapsAt.calls _ _ l1 t629 t630 t631 t632 _ ?side1 ?side2 A50.out).mono ?_); (case side1 => repeat (first | exact (Kd.C_below HR1.out HB.out) | (with_reducible refine Kd.C_alloc ?_ _) | (with_reducible refine Kd.C_drewN ?_ _) | (with_reducible refine Kd.C_drew ?_))); (case side2 => exact HC1.out); rintro e w76 ⟨rfl, hb⟩; refine ⟨_, rfl, ?_⟩; replace HB := A_ (below_step bw_ hb); (try clear hb)) | ((with_reducible refine gate_dst (N := 17) rfl ?_); (try (refine gate_guard (by rfl) ?_; dsimp only)); refine be_ 17 #[.int .i64 0, .int .i64 0] 35 ?_; intro gb633 hg w77 hbox hb; have BK633 := A_ hbox; have GW633 := A_ (bz_ (w := w) hg); have GE633 := A_ (bz_ (w := w) hg); replace HB := A_ (below_step bw_ hb); clear hb hbox hg; have hcz78_0 := hz_ BK633.out 0 (.int .i64 0); have hcz78_1 := hz_ BK633.out 1 (.int .i64 0); have hfz78_0 := blk_frozen BK633.out 0; have hfz78_1 := blk_frozen BK633.out 1) | ((with_reducible refine gate_callee (f := 12) rfl ?_); refine gl_ (some 204) Tryz.func12 #[.int .i64 t629, .agg #[.int .i64 t630, .int .i64 t631], .int .i64 t632] ?_; (with_reducible refine (impl_LapsAt.calls t629 t630 t631 t632 t634 t635 _ A51.out).mono ?_); rintro e w79 ⟨rfl, hb⟩; refine ⟨_, rfl, ?_⟩; replace HB := A_ (below_step bw_ hb); replace BK633 := A_ (blk_below (g := gb633) (o := .cells #[.int .i64 t630, .int .i64 t631] 35 (0, 0)) (by (with_reducible repeat (first | refine blk_drewN ?_ _ | refine blk_drew ?_ | refine blk_alloc ?_ _)); refine blk_put (cs := #[.int .i64 t630, .int .i64 0]) ?_ 1 _ rfl; (with_reducible repeat (first | refine blk_drewN ?_ _ | refine blk_drew ?_ | refine blk_alloc ?_ _)); refine blk_put (cs := #[.int .i64 0, .int .i64 0]) ?_ 0 _ rfl; (with_reducible repeat (first | refine blk_drewN ?_ _ | refine blk_drew ?_ | refine blk_alloc ?_ _)); exact BK633.out) hb); (try clear hb); have hcz80_0 := hz_ BK633.out 0 (.int .i64 t630); have hcz80_1 := hz_ BK633.out 1 (.int .i64 t631); have hfz80_0 := blk_frozen BK633.out 0; have hfz80_1 := blk_frozen BK633.out 1) | ((with_reducible refine gate_callee (f := 13) rfl ?_); refine gl_ (some 211) Tryz.func13 #[.int .i64 t629, .agg #[.int .i64 t630, .int .i64 t631], .int .i64 t632] ?_; (with_reducible refine (spec_LapsAt.calls t629 t630 t631 t632 t636 t637 _ A52.out).mono ?_); rintro e w81 ⟨rfl, hb⟩; refine ⟨_, rfl, ?_⟩; replace HB := A_ (below_step bw_ hb); replace BK633 := A_ (bb_ BK633.out hb); (try clear hb); have hcz82_0 := hz_ BK633.out 0 (.int .i64 t630); have hcz82_1 := hz_ BK633.out 1 (.int .i64 t631); have hfz82_0 := blk_frozen BK633.out 0; have hfz82_1 := blk_frozen BK633.out 1) | ((with_reducible refine gate_callee (f := 14) rfl ?_); refine gl_ (some 218) Tryz.func14 #[.int .i64 t629, .agg #[.int .i64 t630, .int .i64 t631], .int .i64 t632] ?_; (with_reducible refine (impl_PlaceOnTrack.calls t629 t630 t631 t632 t638 t639 _ A53.out).mono ?_); rintro e w83 ⟨rfl, hb⟩; refine ⟨_, rfl, ?_⟩; replace HB := A_ (below_step bw_ hb); replace BK633 := A_ (bb_ BK633.out hb); (try clear hb); have hcz84_0 := hz_ BK633.out 0 (.int .i64 t630); have hcz84_1 := hz_ BK633.out 1 (.int .i64 t631); have hfz84_0 := blk_frozen BK633.out 0; have hfz84_1 := blk_frozen BK633.out 1) | ((with_reducible refine gate_callee (f := 15) rfl ?_); refine gl_ (some 225) Tryz.func15 #[.int .i64 t629, .agg #[.int .i64 t630, .int .i64 t631], .int .i64 t632] ?_; (with_reducible refine (spec_PlaceOnTrack.calls t629 t630 t631 t632 t640 t641 _ A54.out).mono ?_); rintro e w85 ⟨rfl, hb⟩; refine ⟨_, rfl, ?_⟩; replace HB := A_ (below_step bw_ hb); replace BK633 := A_ (bb_ BK633.out hb); (try clear hb)) | ((with_reducible refine gate_callee (f := 16) rfl ?_); refine gl_ (some 230) Tryz.func16 #[.slice A1 l1.length c1] ?_; (with_reducible refine (spec_DrawLonelyTime.calls kj17 _ _ l1 t642 t643 t644 _ ?side1 ?side2 A55.out).mono ?_); (case side1 => repeat (first | exact (Kd.C_below HR1.out HB.out) | (with_reducible refine Kd.C_alloc ?_ _) | (with_reducible refine Kd.C_drewN ?_ _) | (with_reducible refine Kd.C_drew ?_))); (case side2 => exact HC1.out); rintro e w86 ⟨v645, rfl, ho0, hb⟩; refine ⟨_, rfl, ?_⟩; have HO646 := A_ (Kd.R_lower (Kd.R_newB ho0 (g := gb633) (o := .cells #[.int .i64 t630, .int .i64 t631] 35 (0, 0)) bk_) (below_size bw_)); replace HB := A_ (below_step bw_ hb); replace BK633 := A_ (bb_ BK633.out hb); (try clear hb); (try clear ho0); obtain ⟨Ao87, co87, eo87⟩ := Kd.R_slice HO646.out; subst eo87) | ((with_reducible refine gate_callee (f := 17) rfl ?_); refine gl_ (some 238) Tryz.func17 #[.int .i64 t642, .slice Ao87 t643.length co87, .int .i64 t644] ?_; (with_reducible refine (impl_LonelyTime.calls kj17 t642 _ _ t643 t644 t647 t648 _ ?side1 ?side2 A56.out).mono ?_); (case side1 => repeat (first | exact (Kd.R_reads' HO646.out).2.2 | (with_reducible refine Kd.C_alloc ?_ _) | (with_reducible refine Kd.C_drewN ?_ _) | (with_reducible refine Kd.C_drew ?_))); (case side2 => exact (Kd.R_reads' HO646.out).2.1); rintro e w88 ⟨rfl, hb⟩; refine ⟨_, rfl, ?_⟩; replace HB := A_ (below_step bw_ hb); replace BK633 := A_ (bb_ BK633.out hb); replace HO646 := A_ (Kd.R_below (by (with_reducible repeat (first | apply Kd.R_alloc | apply Kd.R_drewN | apply Kd.R_drew)); exact HO646.out) hb); (try clear hb)) | ((with_reducible refine gate_callee (f := 18) rfl ?_); refine gl_ (some 245) Tryz.func18 #[.int .i64 t642, .slice Ao87 t643.length co87, .int .i64 t644] ?_; (with_reducible refine (spec_LonelyTime.calls kj17 t642 _ _ t643 t644 t649 t650 _ ?side1 ?side2 A57.out).mono ?_); (case side1 => repeat (first | exact (Kd.R_reads' HO646.out).2.2 | (with_reducible refine Kd.C_alloc ?_ _) | (with_reducible refine Kd.C_drewN ?_ _) | (with_reducible refine Kd.C_drew ?_))); (case side2 => exact (Kd.R_reads' HO646.out).2.1); rintro e w89 ⟨rfl, hb⟩; refine ⟨_, rfl, ?_⟩; replace HB := A_ (below_step bw_ hb); replace BK633 := A_ (bb_ BK633.out hb); replace HO646 := A_ (Kd.R_below (by (with_reducible repeat (first | apply Kd.R_alloc | apply Kd.R_drewN | apply Kd.R_drew)); exact HO646.out) hb); (try clear hb)) | ((with_reducible refine gate_callee (f := 19) rfl ?_); refine gl_ (some 250) Tryz.func19 #[.slice A1 l1.length c1] ?_; (with_reducible refine (spec_DrawHandicapFor.calls _ _ l1 t651 t652 t653 t654 t655 t656 _ ?side1 ?side2 A58.out).mono ?_); (case side1 => repeat (first | exact (Kd.C_below HR1.out HB.out) | (with_reducible refine Kd.C_alloc ?_ _) | (with_reducible refine Kd.C_drewN ?_ _) | (with_reducible refine Kd.C_drew ?_))); (case side2 => exact HC1.out); rintro e w90 ⟨rfl, hb⟩; refine ⟨_, rfl, ?_⟩; replace HB := A_ (below_step bw_ hb); replace BK633 := A_ (bb_ BK633.out hb); replace HO646 := A_ (Kd.R_below (by (with_reducible repeat (first | apply Kd.R_alloc | apply Kd.R_drewN | apply Kd.R_drew)); exact HO646.out) hb); (try clear hb)) | ((with_reducible refine gate_dst (N := 35) rfl ?_); (try (refine gate_guard (by rfl) ?_; dsimp only)); refine be_ 35 #[.int .i64 0, .int .i64 0] 35 ?_; intro gb657 hg w91 hbox hb; have BK657 := A_ hbox; have GW657 := A_ (bz_ (w := w) hg); have GE657 := A_ (bz_ (w := w) hg); have NB633_657 := A_ (nl_ BK633.out hg); have NB657_633 := A_ (ng_ BK633.out hg); replace HB := A_ (below_step bw_ hb); replace BK633 := A_ (bb_ BK633.out hb); replace HO646 := A_ (Kd.R_below (Kd.R_elderB (by (with_reducible repeat (first | apply Kd.R_alloc | apply Kd.R_drewN | apply Kd.R_drew)); exact HO646.out) gb657 (Nat.le_of_eq hg.symm)) hb); clear hb hbox hg) | ((with_reducible refine gate_dst (N := 36) rfl ?_); (try (refine gate_guard (by rfl) ?_; dsimp only)); refine be_ 36 #[.int .i64 0, .int .i64 0] 35 ?_; intro gb658 hg w92 hbox hb; have BK658 := A_ hbox; have GW658 := A_ (bz_ (w := w) hg); have GE658 := A_ (bz_ (w := w) hg); have NB633_658 := A_ (nl_ BK633.out hg); have NB658_633 := A_ (ng_ BK633.out hg); have NB657_658 := A_ (nl_ BK657.out hg); have NB658_657 := A_ (ng_ BK657.out hg); replace HB := A_ (below_step bw_ hb); replace BK633 := A_ (bb_ BK633.out hb); replace BK657 := A_ (bb_ BK657.out hb); replace HO646 := A_ (Kd.R_below (Kd.R_elderB (by (with_reducible repeat (first | apply Kd.R_alloc | apply Kd.R_drewN | apply Kd.R_drew)); exact HO646.out) gb658 (Nat.le_of_eq hg.symm)) hb); clear hb hbox hg; have hnb93 := NB657_633.out; have hnc93 := NB633_657.out; have hnb94 := NB657_658.out; have hnc94 := NB658_657.out; have hcz95_0 := hz_ BK657.out 0 (.int .i64 0); have hcz95_1 := hz_ BK657.out 1 (.int .i64 0); have hfz95_0 := blk_frozen BK657.out 0; have hfz95_1 := blk_frozen BK657.out 1; have hnb96 := NB658_633.out; have hnc96 := NB633_658.out; have hcz97_0 := hz_ BK658.out 0 (.int .i64 0); have hcz97_1 := hz_ BK658.out 1 (.int .i64 0); have hfz97_0 := blk_frozen BK658.out 0; have hfz97_1 := blk_frozen BK658.out 1) | ((with_reducible refine gate_callee (f := 20) rfl ?_); refine gl_ (some 260) Tryz.func20 #[.int .i64 t651, .agg #[.int .i64 t652, .int .i64 t653], .agg #[.int .i64 t654, .int .i64 t655], .int .i64 t656] ?_; (with_reducible refine (impl_HandicapFor.calls kj17 t651 t652 t653 t654 t655 t656 t659 t660 _ A59.out).mono ?_); rintro e w98 ⟨rfl, hb⟩; refine ⟨_, rfl, ?_⟩; replace HB := A_ (below_step bw_ hb); replace BK633 := A_ (blk_below (g := gb633) (o := .cells #[.int .i64 t630, .int .i64 t631] 35 (0, 0)) bf_ hb); replace HO646 := A_ (Kd.R_below (by (with_reducible repeat (first | apply Kd.R_alloc | apply Kd.R_drewN | apply Kd.R_drew)); exact (Kd.R_mono (Kd.R_mono (Kd.R_far (p := ⟨gb658, 1, none⟩) (Kd.R_far (p := ⟨gb658, 0, none⟩) (Kd.R_far (p := ⟨gb657, 1, none⟩) (Kd.R_far (p := ⟨gb657, 0, none⟩) (Kd.R_mono (Kd.R_mono HO646.out (fun k_ hk => (⟨hk, hk.1.2⟩ : _ ∧ k_ ≠ gb657))) (fun k_ hk => (⟨hk, hk.1.2⟩ : _ ∧ k_ ≠ gb658))) (fun _ hk => hk.1.2) (.int .i64 t652)) (fun _ hk => hk.1.2) (.int .i64 t653)) (fun _ hk => hk.2) (.int .i64 t654)) (fun _ hk => hk.2) (.int .i64 t655)) (fun _ h_ => h_.1)) (fun _ h_ => h_.1))) hb); replace BK657 := A_ (blk_below (g := gb657) (o := .cells #[.int .i64 t652, .int .i64 t653] 35 (0, 0)) (by (with_reducible repeat (first | refine blk_drewN ?_ _ | refine blk_drew ?_ | refine blk_alloc ?_ _)); refine blk_far ?_ NB657_658.out _; (with_reducible repeat (first | refine blk_drewN ?_ _ | refine blk_drew ?_ | refine blk_alloc ?_ _)); refine blk_far ?_ NB657_658.out _; (with_reducible repeat (first | refine blk_drewN ?_ _ | refine blk_drew ?_ | refine blk_alloc ?_ _)); refine blk_put (cs := #[.int .i64 t652, .int .i64 0]) ?_ 1 _ rfl; (with_reducible repeat (first | refine blk_drewN ?_ _ | refine blk_drew ?_ | refine blk_alloc ?_ _)); refine blk_put (cs := #[.int .i64 0, .int .i64 0]) ?_ 0 _ rfl; (with_reducible repeat (first | refine blk_drewN ?_ _ | refine blk_drew ?_ | refine blk_alloc ?_ _)); exact BK657.out) hb); replace BK658 := A_ (blk_below (g := gb658) (o := .cells #[.int .i64 t654, .int .i64 t655] 35 (0, 0)) (by (with_reducible repeat (first | refine blk_drewN ?_ _ | refine blk_drew ?_ | refine blk_alloc ?_ _)); refine blk_put (cs := #[.int .i64 t654, .int .i64 0]) ?_ 1 _ rfl; (with_reducible repeat (first | refine blk_drewN ?_ _ | refine blk_drew ?_ | refine blk_alloc ?_ _)); refine blk_put (cs := #[.int .i64 0, .int .i64 0]) ?_ 0 _ rfl; (with_reducible repeat (first | refine blk_drewN ?_ _ | refine blk_drew ?_ | refine blk_alloc ?_ _)); refine blk_far ?_ NB658_657.out _; (with_reducible repeat (first | refine blk_drewN ?_ _ | refine blk_drew ?_ | refine blk_alloc ?_ _)); refine blk_far ?_ NB658_657.out _; (with_reducible repeat (first | refine blk_drewN ?_ _ | refine blk_drew ?_ | refine blk_alloc ?_ _)); exact BK658.out) hb); (try clear hb); have hcz99_0 := hz_ BK657.out 0 (.int .i64 t652); have hcz99_1 := hz_ BK657.out 1 (.int .i64 t653); have hfz99_0 := blk_frozen BK657.out 0; have hfz99_1 := blk_frozen BK657.out 1; have hcz100_0 := hz_ BK658.out 0 (.int .i64 t654); have hcz100_1 := hz_ BK658.out 1 (.int .i64 t655); have hfz100_0 := blk_frozen BK658.out 0; have hfz100_1 := blk_frozen BK658.out 1) | ((with_reducible refine gate_callee (f := 21) rfl ?_); refine gl_ (some 268) Tryz.func21 #[.int .i64 t651, .agg #[.int .i64 t652, .int .i64 t653], .agg #[.int .i64 t654, .int .i64 t655], .int .i64 t656] ?_; (with_reducible refine (spec_HandicapFor.calls kj17 t651 t652 t653 t654 t655 t656 t661 t662 _ A60.out).mono ?_); rintro e w101 ⟨rfl, hb⟩; refine ⟨_, rfl, ?_⟩; replace HB := A_ (below_step bw_ hb); replace BK633 := A_ (bb_ BK633.out hb); replace BK657 := A_ (bb_ BK657.out hb); replace BK658 := A_ (bb_ BK658.out hb); replace HO646 := A_ (Kd.R_below (by (with_reducible repeat (first | apply Kd.R_alloc | apply Kd.R_drewN | apply Kd.R_drew)); exact HO646.out) hb); (try clear hb); have hcz102_0 := hz_ BK657.out 0 (.int .i64 t652); have hcz102_1 := hz_ BK657.out 1 (.int .i64 t653); have hfz102_0 := blk_frozen BK657.out 0; have hfz102_1 := blk_frozen BK657.out 1) | ((with_reducible refine gate_callee (f := 22) rfl ?_); refine gl_ (some 275) Tryz.func22 #[.int .i64 t651, .agg #[.int .i64 t652, .int .i64 t653], .int .i64 t656] ?_; (with_reducible refine (impl_TimeOfLaps.calls kj17 t651 t652 t653 t656 t663 t664 t665 _ A61.out).mono ?_); rintro e w103 ⟨rfl, hb⟩; refine ⟨_, rfl, ?_⟩; replace HB := A_ (below_step bw_ hb); replace BK633 := A_ (bb_ BK633.out hb); replace BK657 := A_ (bb_ BK657.out hb); replace BK658 := A_ (bb_ BK658.out hb); replace HO646 := A_ (Kd.R_below (by (with_reducible repeat (first | apply Kd.R_alloc | apply Kd.R_drewN | apply Kd.R_drew)); exact HO646.out) hb); (try clear hb); have hcz104_0 := hz_ BK657.out 0 (.int .i64 t652); have hcz104_1 := hz_ BK657.out 1 (.int .i64 t653); have hfz104_0 := blk_frozen BK657.out 0; have hfz104_1 := blk_frozen BK657.out 1) | ((with_reducible refine gate_callee (f := 23) rfl ?_); refine gl_ (some 283) Tryz.func23 #[.int .i64 t651, .agg #[.int .i64 t652, .int .i64 t653], .int .i64 t656] ?_; (with_reducible refine (spec_TimeOfLaps.calls kj17 t651 t652 t653 t656 t666 t667 t668 _ A62.out).mono ?_); rintro e w105 ⟨rfl, hb⟩; refine ⟨_, rfl, ?_⟩; replace HB := A_ (below_step bw_ hb); replace BK633 := A_ (bb_ BK633.out hb); replace BK657 := A_ (bb_ BK657.out hb); replace BK658 := A_ (bb_ BK658.out hb); replace HO646 := A_ (Kd.R_below (by (with_reducible repeat (first | apply Kd.R_alloc | apply Kd.R_drewN | apply Kd.R_drew)); exact HO646.out) hb); (try clear hb)) | ((with_reducible refine gate_callee (f := 24) rfl ?_); refine gl_ (some 289) Tryz.func24 #[.slice A1 l1.length c1] ?_; (with_reducible refine (spec_DrawWinnerOfLaps.calls kj17 _ _ l1 t669 t670 t671 _ ?side1 ?side2 A63.out).mono ?_); (case side1 => repeat (first | exact (Kd.C_below HR1.out HB.out) | (with_reducible refine Kd.C_alloc ?_ _) | (with_reducible refine Kd.C_drewN ?_ _) | (with_reducible refine Kd.C_drew ?_))); (case side2 => exact HC1.out); rintro e w106 ⟨v672, rfl, ho0, hb⟩; refine ⟨_, rfl, ?_⟩; have HO673 := A_ (Kd.R_lower (Kd.R_newB (Kd.R_newB (Kd.R_newB (Kd.R_new' ho0 (Kd.R_lt (by (with_reducible repeat (first | apply Kd.R_alloc | apply Kd.R_drewN | apply Kd.R_drew)); exact HO646.out))) (g := gb633) (o := .cells #[.int .i64 t630, .int .i64 t631] 35 (0, 0)) bk_) (g := gb657) (o := .cells #[.int .i64 t652, .int .i64 t653] 35 (0, 0)) bk_) (g := gb658) (o := .cells #[.int .i64 t654, .int .i64 t655] 35 (0, 0)) bk_) (below_size bw_)); replace HB := A_ (below_step bw_ hb); replace BK633 := A_ (bb_ BK633.out hb); replace BK657 := A_ (bb_ BK657.out hb); replace BK658 := A_ (bb_ BK658.out hb); replace HO646 := A_ (Kd.R_elder' (by (with_reducible repeat (first | apply Kd.R_alloc | apply Kd.R_drewN | apply Kd.R_drew)); exact HO646.out) (Kd.R_base ho0) hb); (try clear hb); (try clear ho0); obtain ⟨Ao107, co107, eo107⟩ := Kd.R_slice HO673.out; subst eo107) | ((with_reducible refine gate_callee (f := 25) rfl ?_); refine gl_ (some 297) Tryz.func25 #[.int .i64 t669, .slice Ao107 t670.length co107, .int .i64 t671] ?_; (with_reducible refine (impl_WinnerOfLaps.calls kj17 t669 _ _ t670 t671 t674 t675 _ ?side1 ?side2 A64.out).mono ?_); (case side1 => repeat (first | exact (Kd.R_reads' HO673.out).2.2 | (with_reducible refine Kd.C_alloc ?_ _) | (with_reducible refine Kd.C_drewN ?_ _) | (with_reducible refine Kd.C_drew ?_))); (case side2 => exact (Kd.R_reads' HO673.out).2.1); rintro e w108 ⟨v676, rfl, ho0, hb⟩; refine ⟨_, rfl, ?_⟩; have HO677 := A_ (Kd.R_lower ho0 (below_size bw_)); replace HB := A_ (below_step bw_ hb); replace BK633 := A_ (bb_ BK633.out hb); replace BK657 := A_ (bb_ BK657.out hb); replace BK658 := A_ (bb_ BK658.out hb); replace HO646 := A_ (Kd.R_below (by (with_reducible repeat (first | apply Kd.R_alloc | apply Kd.R_drewN | apply Kd.R_drew)); exact HO646.out) hb); replace HO673 := A_ (Kd.R_below (by (with_reducible repeat (first | apply Kd.R_alloc | apply Kd.R_drewN | apply Kd.R_drew)); exact HO673.out) hb); (try clear hb); (try clear ho0)) | ((with_reducible refine gate_callee (f := 26) rfl ?_); refine gl_ (some 304) Tryz.func26 #[.int .i64 t669, .slice Ao107 t670.length co107, .int .i64 t671] ?_; (with_reducible refine (spec_WinnerOfLaps.calls kj17 t669 _ _ t670 t671 t678 t679 _ ?side1 ?side2 A65.out).mono ?_); (case side1 => repeat (first | exact (Kd.R_reads' HO673.out).2.2 | (with_reducible refine Kd.C_alloc ?_ _) | (with_reducible refine Kd.C_drewN ?_ _) | (with_reducible refine Kd.C_drew ?_))); (case side2 => exact (Kd.R_reads' HO673.out).2.1); rintro e w109 ⟨v680, rfl, ho0, hb⟩; refine ⟨_, rfl, ?_⟩; have HO681 := A_ (Kd.R_lower (Kd.R_new' ho0 (Kd.R_lt (by (with_reducible repeat (first | apply Kd.R_alloc | apply Kd.R_drewN | apply Kd.R_drew)); exact HO677.out))) (below_size bw_)); replace HB := A_ (below_step bw_ hb); replace BK633 := A_ (bb_ BK633.out hb); replace BK657 := A_ (bb_ BK657.out hb); replace BK658 := A_ (bb_ BK658.out hb); replace HO646 := A_ (Kd.R_below (by (with_reducible repeat (first | apply Kd.R_alloc | apply Kd.R_drewN | apply Kd.R_drew)); exact HO646.out) hb); replace HO673 := A_ (Kd.R_below (by (with_reducible repeat (first | apply Kd.R_alloc | apply Kd.R_drewN | apply Kd.R_drew)); exact HO673.out) hb); replace HO677 := A_ (Kd.R_elder' (by (with_reducible repeat (first | apply Kd.R_alloc | apply Kd.R_drewN | apply Kd.R_drew)); exact HO677.out) (Kd.R_base ho0) hb); (try clear hb); (try clear ho0)) | ((with_reducible refine gate_callee (f := 27) rfl ?_); refine gl_ (some 309) Tryz.func27 #[.slice A1 l1.length c1] ?_; (with_reducible refine (spec_DrawNearestOthers.calls kj17 _ _ l1 t682 t683 t684 t685 _ ?side1 ?side2 A66.out).mono ?_); (case side1 => repeat (first | exact (Kd.C_below HR1.out HB.out) | (with_reducible refine Kd.C_alloc ?_ _) | (with_reducible refine Kd.C_drewN ?_ _) | (with_reducible refine Kd.C_drew ?_))); (case side2 => exact HC1.out); rintro e w110 ⟨v686, rfl, ho0, hb⟩; refine ⟨_, rfl, ?_⟩; have HO687 := A_ (Kd.R_lower (Kd.R_newB (Kd.R_newB (Kd.R_newB (Kd.R_new' (Kd.R_new' ho0 (Kd.R_lt (by (with_reducible repeat (first | apply Kd.R_alloc | apply Kd.R_drewN | apply Kd.R_drew)); exact HO646.out))) (Kd.R_lt (by (with_reducible repeat (first | apply Kd.R_alloc | apply Kd.R_drewN | apply Kd.R_drew)); exact HO673.out))) (g := gb633) (o := .cells #[.int .i64 t630, .int .i64 t631] 35 (0, 0)) bk_) (g := gb657) (o := .cells #[.int .i64 t652, .int .i64 t653] 35 (0, 0)) bk_) (g := gb658) (o := .cells #[.int .i64 t654, .int .i64 t655] 35 (0, 0)) bk_) (below_size bw_)); replace HB := A_ (below_step bw_ hb); replace BK633 := A_ (bb_ BK633.out hb); replace BK657 := A_ (bb_ BK657.out hb); replace BK658 := A_ (bb_ BK658.out hb); replace HO646 := A_ (Kd.R_elder' (by (with_reducible repeat (first | apply Kd.R_alloc | apply Kd.R_drewN | apply Kd.R_drew)); exact HO646.out) (Kd.R_base ho0) hb); replace HO673 := A_ (Kd.R_elder' (by (with_reducible repeat (first | apply Kd.R_alloc | apply Kd.R_drewN | apply Kd.R_drew)); exact HO673.out) (Kd.R_base ho0) hb); replace HO677 := A_ (Kd.R_below (by (with_reducible repeat (first | apply Kd.R_alloc | apply Kd.R_drewN | apply Kd.R_drew)); exact HO677.out) hb); replace HO681 := A_ (Kd.R_below (by (with_reducible repeat (first | apply Kd.R_alloc | apply Kd.R_drewN | apply Kd.R_drew)); exact HO681.out) hb); (try clear hb); (try clear ho0); obtain ⟨Ao111, co111, eo111⟩ := Kd.R_slice HO687.out; subst eo111) | ((with_reducible refine gate_callee (f := 28) rfl ?_); refine gl_ (some 319) Tryz.func28 #[.int .i64 t682, .slice Ao111 t683.length co111, .int .i64 t684, .int .i64 t685] ?_; (with_reducible refine (impl_NearestOthers.calls kj17 t682 _ _ t683 t684 t685 t688 t689 _ ?side1 ?side2 A67.out).mono ?_); (case side1 => repeat (first | exact (Kd.R_reads' HO687.out).2.2 | (with_reducible refine Kd.C_alloc ?_ _) | (with_reducible refine Kd.C_drewN ?_ _) | (with_reducible refine Kd.C_drew ?_))); (case side2 => exact (Kd.R_reads' HO687.out).2.1); rintro e w112 ⟨rfl, hb⟩; refine ⟨_, rfl, ?_⟩; replace HB := A_ (below_step bw_ hb); replace BK633 := A_ (bb_ BK633.out hb); replace BK657 := A_ (bb_ BK657.out hb); replace BK658 := A_ (bb_ BK658.out hb); replace HO646 := A_ (Kd.R_below (by (with_reducible repeat (first | apply Kd.R_alloc | apply Kd.R_drewN | apply Kd.R_drew)); exact HO646.out) hb); replace HO673 := A_ (Kd.R_below (by (with_reducible repeat (first | apply Kd.R_alloc | apply Kd.R_drewN | apply Kd.R_drew)); exact HO673.out) hb); replace HO677 := A_ (Kd.R_below (by (with_reducible repeat (first | apply Kd.R_alloc | apply Kd.R_drewN | apply Kd.R_drew)); exact HO677.out) hb); replace HO681 := A_ (Kd.R_below (by (with_reducible repeat (first | apply Kd.R_alloc | apply Kd.R_drewN | apply Kd.R_drew)); exact HO681.out) hb); replace HO687 := A_ (Kd.R_below (by (with_reducible repeat (first | apply Kd.R_alloc | apply Kd.R_drewN | apply Kd.R_drew)); exact HO687.out) hb); (try clear hb)) | ((with_reducible refine gate_callee (f := 29) rfl ?_); refine gl_ (some 327) Tryz.func29 #[.int .i64 t682, .slice Ao111 t683.length co111, .int .i64 t684, .int .i64 t685] ?_; (with_reducible refine (spec_NearestOthers.calls kj17 t682 _ _ t683 t684 t685 t690 t691 _ ?side1 ?side2 A68.out).mono ?_); (case side1 => repeat (first | exact (Kd.R_reads' HO687.out).2.2 | (with_reducible refine Kd.C_alloc ?_ _) | (with_reducible refine Kd.C_drewN ?_ _) | (with_reducible refine Kd.C_drew ?_))); (case side2 => exact (Kd.R_reads' HO687.out).2.1); rintro e w113 ⟨rfl, hb⟩; refine ⟨_, rfl, ?_⟩; replace HB := A_ (below_step bw_ hb); replace BK633 := A_ (bb_ BK633.out hb); replace BK657 := A_ (bb_ BK657.out hb); replace BK658 := A_ (bb_ BK658.out hb); replace HO646 := A_ (Kd.R_below (by (with_reducible repeat (first | apply Kd.R_alloc | apply Kd.R_drewN | apply Kd.R_drew)); exact HO646.out) hb); replace HO673 := A_ (Kd.R_below (by (with_reducible repeat (first | apply Kd.R_alloc | apply Kd.R_drewN | apply Kd.R_drew)); exact HO673.out) hb); replace HO677 := A_ (Kd.R_below (by (with_reducible repeat (first | apply Kd.R_alloc | apply Kd.R_drewN | apply Kd.R_drew)); exact HO677.out) hb); replace HO681 := A_ (Kd.R_below (by (with_reducible repeat (first | apply Kd.R_alloc | apply Kd.R_drewN | apply Kd.R_drew)); exact HO681.out) hb); replace HO687 := A_ (Kd.R_below (by (with_reducible repeat (first | apply Kd.R_alloc | apply Kd.R_drewN | apply Kd.R_drew)); exact HO687.out) hb); (try clear hb)) | ((with_reducible refine gate_callee (f := 30) rfl ?_); refine gl_ (some 331) Tryz.func30 #[.slice A1 l1.length c1] ?_; (with_reducible refine (spec_DrawRunnersText.calls kj17 _ _ l1 t692 _ ?side1 ?side2 A69.out).mono ?_); (case side1 => repeat (first | exact (Kd.C_below HR1.out HB.out) | (with_reducible refine Kd.C_alloc ?_ _) | (with_reducible refine Kd.C_drewN ?_ _) | (with_reducible refine Kd.C_drew ?_))); (case side2 => exact HC1.out); rintro e w114 ⟨v693, rfl, ho0, hb⟩; refine ⟨_, rfl, ?_⟩; have HO694 := A_ (Kd.R_lower (Kd.R_newB (Kd.R_newB (Kd.R_newB (Kd.R_new' (Kd.R_new' (Kd.R_new' ho0 (Kd.R_lt (by (with_reducible repeat (first | apply Kd.R_alloc | apply Kd.R_drewN | apply Kd.R_drew)); exact HO646.out))) (Kd.R_lt (by (with_reducible repeat (first | apply Kd.R_alloc | apply Kd.R_drewN | apply Kd.R_drew)); exact HO673.out))) (Kd.R_lt (by (with_reducible repeat (first | apply Kd.R_alloc | apply Kd.R_drewN | apply Kd.R_drew)); exact HO687.out))) (g := gb633) (o := .cells #[.int .i64 t630, .int .i64 t631] 35 (0, 0)) bk_) (g := gb657) (o := .cells #[.int .i64 t652, .int .i64 t653] 35 (0, 0)) bk_) (g := gb658) (o := .cells #[.int .i64 t654, .int .i64 t655] 35 (0, 0)) bk_) (below_size bw_)); replace HB := A_ (below_step bw_ hb); replace BK633 := A_ (bb_ BK633.out hb); replace BK657 := A_ (bb_ BK657.out hb); replace BK658 := A_ (bb_ BK658.out hb); replace HO646 := A_ (Kd.R_elder' (by (with_reducible repeat (first | apply Kd.R_alloc | apply Kd.R_drewN | apply Kd.R_drew)); exact HO646.out) (Kd.R_base ho0) hb); replace HO673 := A_ (Kd.R_elder' (by (with_reducible repeat (first | apply Kd.R_alloc | apply Kd.R_drewN | apply Kd.R_drew)); exact HO673.out) (Kd.R_base ho0) hb); replace HO677 := A_ (Kd.R_below (by (with_reducible repeat (first | apply Kd.R_alloc | apply Kd.R_drewN | apply Kd.R_drew)); exact HO677.out) hb); replace HO681 := A_ (Kd.R_below (by (with_reducible repeat (first | apply Kd.R_alloc | apply Kd.R_drewN | apply Kd.R_drew)); exact HO681.out) hb); replace HO687 := A_ (Kd.R_elder' (by (with_reducible repeat (first | apply Kd.R_alloc | apply Kd.R_drewN | apply Kd.R_drew)); exact HO687.out) (Kd.R_base ho0) hb); (try clear hb); (try clear ho0); obtain ⟨Ao115, co115, eo115⟩ := Kd.R_slice HO694.out; subst eo115) | ((with_reducible refine gate_callee (f := 31) rfl ?_); refine gl_ (some 334) Tryz.func31 #[.slice Ao115 t692.length co115] ?_; (with_reducible refine (impl_RunnersText.calls kj17 _ _ t692 t695 t696 _ ?side1 ?side2 A70.out).mono ?_); (case side1 => repeat (first | exact (Kd.R_reads' HO694.out).2.2 | (with_reducible refine Kd.C_alloc ?_ _) | (with_reducible refine Kd.C_drewN ?_ _) | (with_reducible refine Kd.C_drew ?_))); (case side2 => exact (Kd.R_reads' HO694.out).2.1); rintro e w116 ⟨rfl, hb⟩; refine ⟨_, rfl, ?_⟩; replace HB := A_ (below_step bw_ hb); replace BK633 := A_ (bb_ BK633.out hb); replace BK657 := A_ (bb_ BK657.out hb); replace BK658 := A_ (bb_ BK658.out hb); replace HO646 := A_ (Kd.R_below (by (with_reducible repeat (first | apply Kd.R_alloc | apply Kd.R_drewN | apply Kd.R_drew)); exact HO646.out) hb); replace HO673 := A_ (Kd.R_below (by (with_reducible repeat (first | apply Kd.R_alloc | apply Kd.R_drewN | apply Kd.R_drew)); exact HO673.out) hb); replace HO677 := A_ (Kd.R_below (by (with_reducible repeat (first | apply Kd.R_alloc | apply Kd.R_drewN | apply Kd.R_drew)); exact HO677.out) hb); replace HO681 := A_ (Kd.R_below (by (with_reducible repeat (first | apply Kd.R_alloc | apply Kd.R_drewN | apply Kd.R_drew)); exact HO681.out) hb); replace HO687 := A_ (Kd.R_below (by (with_reducible repeat (first | apply Kd.R_alloc | apply Kd.R_drewN | apply Kd.R_drew)); exact HO687.out) hb); replace HO694 := A_ (Kd.R_below (by (with_reducible repeat (first | apply Kd.R_alloc | apply Kd.R_drewN | apply Kd.R_drew)); exact HO694.out) hb); (try clear hb)) | ((with_reducible refine gate_callee (f := 32) rfl ?_); refine gl_ (some 339) Tryz.func32 #[.slice Ao115 t692.length co115] ?_; (with_reducible refine (spec_RunnersText.calls kj17 _ _ t692 t697 t698 _ ?side1 ?side2 A71.out).mono ?_); (case side1 => repeat (first | exact (Kd.R_reads' HO694.out).2.2 | (with_reducible refine Kd.C_alloc ?_ _) | (with_reducible refine Kd.C_drewN ?_ _) | (with_reducible refine Kd.C_drew ?_))); (case side2 => exact (Kd.R_reads' HO694.out).2.1); rintro e w117 ⟨rfl, hb⟩; refine ⟨_, rfl, ?_⟩; replace HB := A_ (below_step bw_ hb); replace BK633 := A_ (bb_ BK633.out hb); replace BK657 := A_ (bb_ BK657.out hb); replace BK658 := A_ (bb_ BK658.out hb); replace HO646 := A_ (Kd.R_below (by (with_reducible repeat (first | apply Kd.R_alloc | apply Kd.R_drewN | apply Kd.R_drew)); exact HO646.out) hb); replace HO673 := A_ (Kd.R_below (by (with_reducible repeat (first | apply Kd.R_alloc | apply Kd.R_drewN | apply Kd.R_drew)); exact HO673.out) hb); replace HO677 := A_ (Kd.R_below (by (with_reducible repeat (first | apply Kd.R_alloc | apply Kd.R_drewN | apply Kd.R_drew)); exact HO677.out) hb); replace HO681 := A_ (Kd.R_below (by (with_reducible repeat (first | apply Kd.R_alloc | apply Kd.R_drewN | apply Kd.R_drew)); exact HO681.out) hb); replace HO687 := A_ (Kd.R_below (by (with_reducible repeat (first | apply Kd.R_alloc | apply Kd.R_drewN | apply Kd.R_drew)); exact HO687.out) hb); replace HO694 := A_ (Kd.R_below (by (with_reducible repeat (first | apply Kd.R_alloc | apply Kd.R_drewN | apply Kd.R_drew)); exact HO694.out) hb); (try clear hb)) | ((with_reducible refine gate_callee (f := 33) rfl ?_); refine gl_ (some 343) Tryz.func33 #[.slice A1 l1.length c1] ?_; (with_reducible refine (spec_DrawParseRunners.calls kj17 _ _ l1 t699 _ ?side1 ?side2 A72.out).mono ?_); (case side1 => repeat (first | exact (Kd.C_below HR1.out HB.out) | (with_reducible refine Kd.C_alloc ?_ _) | (with_reducible refine Kd.C_drewN ?_ _) | (with_reducible refine Kd.C_drew ?_))); (case side2 => exact HC1.out); rintro e w118 ⟨rfl, hb⟩; refine ⟨_, rfl, ?_⟩; replace HB := A_ (below_step bw_ hb); replace BK633 := A_ (bb_ BK633.out hb); replace BK657 := A_ (bb_ BK657.out hb); replace BK658 := A_ (bb_ BK658.out hb); replace HO646 := A_ (Kd.R_below (by (with_reducible repeat (first | apply Kd.R_alloc | apply Kd.R_drewN | apply Kd.R_drew)); exact HO646.out) hb); replace HO673 := A_ (Kd.R_below (by (with_reducible repeat (first | apply Kd.R_alloc | apply Kd.R_drewN | apply Kd.R_drew)); exact HO673.out) hb); replace HO677 := A_ (Kd.R_below (by (with_reducible repeat (first | apply Kd.R_alloc | apply Kd.R_drewN | apply Kd.R_drew)); exact HO677.out) hb); replace HO681 := A_ (Kd.R_below (by (with_reducible repeat (first | apply Kd.R_alloc | apply Kd.R_drewN | apply Kd.R_drew)); exact HO681.out) hb); replace HO687 := A_ (Kd.R_below (by (with_reducible repeat (first | apply Kd.R_alloc | apply Kd.R_drewN | apply Kd.R_drew)); exact HO687.out) hb); replace HO694 := A_ (Kd.R_below (by (with_reducible repeat (first | apply Kd.R_alloc | apply Kd.R_drewN | apply Kd.R_drew)); exact HO694.out) hb); (try clear hb)) | ((with_reducible refine gate_callee (f := 34) rfl ?_); refine gl_ (some 346) Tryz.func34 #[.string t699] ?_; (with_reducible refine (impl_ParseRunners.calls kj17 t699 t700 t701 _ A73.out).mono ?_); rintro e w119 ⟨v702, rfl, ho0, hb⟩; refine ⟨_, rfl, ?_⟩; have HO703 := A_ (Kd.R_lower (Kd.R_newB (Kd.R_newB (Kd.R_newB (Kd.R_new' (Kd.R_new' (Kd.R_new' (Kd.R_new' ho0 (Kd.R_lt (by (with_reducible repeat (first | apply Kd.R_alloc | apply Kd.R_drewN | apply Kd.R_drew)); exact HO646.out))) (Kd.R_lt (by (with_reducible repeat (first | apply Kd.R_alloc | apply Kd.R_drewN | apply Kd.R_drew)); exact HO673.out))) (Kd.R_lt (by (with_reducible repeat (first | apply Kd.R_alloc | apply Kd.R_drewN | apply Kd.R_drew)); exact HO687.out))) (Kd.R_lt (by (with_reducible repeat (first | apply Kd.R_alloc | apply Kd.R_drewN | apply Kd.R_drew)); exact HO694.out))) (g := gb633) (o := .cells #[.int .i64 t630, .int .i64 t631] 35 (0, 0)) bk_) (g := gb657) (o := .cells #[.int .i64 t652, .int .i64 t653] 35 (0, 0)) bk_) (g := gb658) (o := .cells #[.int .i64 t654, .int .i64 t655] 35 (0, 0)) bk_) (below_size bw_)); replace HB := A_ (below_step bw_ hb); replace BK633 := A_ (bb_ BK633.out hb); replace BK657 := A_ (bb_ BK657.out hb); replace BK658 := A_ (bb_ BK658.out hb); replace HO646 := A_ (Kd.R_elder' (by (with_reducible repeat (first | apply Kd.R_alloc | apply Kd.R_drewN | apply Kd.R_drew)); exact HO646.out) (Kd.R_base ho0) hb); replace HO673 := A_ (Kd.R_elder' (by (with_reducible repeat (first | apply Kd.R_alloc | apply Kd.R_drewN | apply Kd.R_drew)); exact HO673.out) (Kd.R_base ho0) hb); replace HO677 := A_ (Kd.R_below (by (with_reducible repeat (first | apply Kd.R_alloc | apply Kd.R_drewN | apply Kd.R_drew)); exact HO677.out) hb); replace HO681 := A_ (Kd.R_below (by (with_reducible repeat (first | apply Kd.R_alloc | apply Kd.R_drewN | apply Kd.R_drew)); exact HO681.out) hb); replace HO687 := A_ (Kd.R_elder' (by (with_reducible repeat (first | apply Kd.R_alloc | apply Kd.R_drewN | apply Kd.R_drew)); exact HO687.out) (Kd.R_base ho0) hb); replace HO694 := A_ (Kd.R_elder' (by (with_reducible repeat (first | apply Kd.R_alloc | apply Kd.R_drewN | apply Kd.R_drew)); exact HO694.out) (Kd.R_base ho0) hb); (try clear hb); (try clear ho0)) | ((with_reducible refine gate_callee (f := 35) rfl ?_); refine gl_ (some 351) Tryz.func35 #[.string t699] ?_; (with_reducible refine (spec_ParseRunners.calls kj17 t699 t704 t705 _ A74.out).mono ?_); rintro e w120 ⟨v706, rfl, ho0, hb⟩; refine ⟨_, rfl, ?_⟩; have HO707 := A_ (Kd.R_lower (Kd.R_newB (Kd.R_newB (Kd.R_newB (Kd.R_new' (Kd.R_new' (Kd.R_new' (Kd.R_new' (Kd.R_new' ho0 (Kd.R_lt (by (with_reducible repeat (first | apply Kd.R_alloc | apply Kd.R_drewN | apply Kd.R_drew)); exact HO646.out))) (Kd.R_lt (by (with_reducible repeat (first | apply Kd.R_alloc | apply Kd.R_drewN | apply Kd.R_drew)); exact HO673.out))) (Kd.R_lt (by (with_reducible repeat (first | apply Kd.R_alloc | apply Kd.R_drewN | apply Kd.R_drew)); exact HO687.out))) (Kd.R_lt (by (with_reducible repeat (first | apply Kd.R_alloc | apply Kd.R_drewN | apply Kd.R_drew)); exact HO694.out))) (Kd.R_lt (by (with_reducible repeat (first | apply Kd.R_alloc | apply Kd.R_drewN | apply Kd.R_drew)); exact HO703.out))) (g := gb633) (o := .cells #[.int .i64 t630, .int .i64 t631] 35 (0, 0)) bk_) (g := gb657) (o := .cells #[.int .i64 t652, .int .i64 t653] 35 (0, 0)) bk_) (g := gb658) (o := .cells #[.int .i64 t654, .int .i64 t655] 35 (0, 0)) bk_) (below_size bw_)); replace HB := A_ (below_step bw_ hb); replace BK633 := A_ (bb_ BK633.out hb); replace BK657 := A_ (bb_ BK657.out hb); replace BK658 := A_ (bb_ BK658.out hb); replace HO646 := A_ (Kd.R_elder' (by (with_reducible repeat (first | apply Kd.R_alloc | apply Kd.R_drewN | apply Kd.R_drew)); exact HO646.out) (Kd.R_base ho0) hb); replace HO673 := A_ (Kd.R_elder' (by (with_reducible repeat (first | apply Kd.R_alloc | apply Kd.R_drewN | apply Kd.R_drew)); exact HO673.out) (Kd.R_base ho0) hb); replace HO677 := A_ (Kd.R_below (by (with_reducible repeat (first | apply Kd.R_alloc | apply Kd.R_drewN | apply Kd.R_drew)); exact HO677.out) hb); replace HO681 := A_ (Kd.R_below (by (with_reducible repeat (first | apply Kd.R_alloc | apply Kd.R_drewN | apply Kd.R_drew)); exact HO681.out) hb); replace HO687 := A_ (Kd.R_elder' (by (with_reducible repeat (first | apply Kd.R_alloc | apply Kd.R_drewN | apply Kd.R_drew)); exact HO687.out) (Kd.R_base ho0) hb); replace HO694 := A_ (Kd.R_elder' (by (with_reducible repeat (first | apply Kd.R_alloc | apply Kd.R_drewN | apply Kd.R_drew)); exact HO694.out) (Kd.R_base ho0) hb); replace HO703 := A_ (Kd.R_elder' (by (with_reducible repeat (first | apply Kd.R_alloc | apply Kd.R_drewN | apply Kd.R_drew)); exact HO703.out) (Kd.R_base ho0) hb); (try clear hb); (try clear ho0)))
        (try simp only [Act.put, List.setIfInBounds_toArray, List.set_cons_zero, List.set_cons_succ])
        go_cut [453] from 354 to 453 (fun v453 wc => ∃ (kq : Nat) (x453_74 : Bool), v453 = .bool x453_74 ∧ Aside0 (laws_FnRunnersRun.j4 kq t629 t632 t634 t635 t638 t642 t643 t644 t647 t648 t651 t656 t659 t660 t663 t664 t665 t669 t670 t671 t674 t675 t692 t695 t696 t699 t700 t701 x453_74 t630 t631 t652 t653 t654 t655 = some r) ∧ Aside0 (kq ≤ kj17) ∧ Aside0 (Kd.R k35 35 wc w.heap.size (fun k_ => some k_ ≠ ((.slice Ao107 t670.length co107) : Value).ownBlock ∧ some k_ ≠ ((.slice Ao115 t692.length co115) : Value).ownBlock ∧ some k_ ≠ (v702 : Value).ownBlock ∧ k_ ≠ gb633 ∧ k_ ≠ gb657 ∧ k_ ≠ gb658) (.slice Ao87 t643.length co87) t643) ∧ Aside0 (Kd.R k35 35 wc w.heap.size (fun k_ => some k_ ≠ ((.slice Ao87 t643.length co87) : Value).ownBlock ∧ some k_ ≠ ((.slice Ao115 t692.length co115) : Value).ownBlock ∧ some k_ ≠ (v702 : Value).ownBlock ∧ k_ ≠ gb633 ∧ k_ ≠ gb657 ∧ k_ ≠ gb658) (.slice Ao107 t670.length co107) t670) ∧ Aside0 (Kd.R (Kd.int .i64) 3 wc w.heap.size (fun _ => True) v676 t674) ∧ Aside0 (Kd.R k35 35 wc w.heap.size (fun k_ => some k_ ≠ ((.slice Ao87 t643.length co87) : Value).ownBlock ∧ some k_ ≠ ((.slice Ao107 t670.length co107) : Value).ownBlock ∧ some k_ ≠ (v702 : Value).ownBlock ∧ k_ ≠ gb633 ∧ k_ ≠ gb657 ∧ k_ ≠ gb658) (.slice Ao115 t692.length co115) t692) ∧ Aside0 (Kd.R k35 35 wc w.heap.size (fun k_ => some k_ ≠ ((.slice Ao87 t643.length co87) : Value).ownBlock ∧ some k_ ≠ ((.slice Ao107 t670.length co107) : Value).ownBlock ∧ some k_ ≠ ((.slice Ao115 t692.length co115) : Value).ownBlock ∧ k_ ≠ gb633 ∧ k_ ≠ gb657 ∧ k_ ≠ gb658) v702 t700) ∧ Aside0 (wc.heap[gb633]? = some (.cells #[.int .i64 t630, .int .i64 t631] 35 (0, 0))) ∧ Aside0 (wc.heap[gb657]? = some (.cells #[.int .i64 t652, .int .i64 t653] 35 (0, 0))) ∧ Aside0 (wc.heap[gb658]? = some (.cells #[.int .i64 t654, .int .i64 t655] 35 (0, 0))) ∧ Aside0 (Below w.heap.size w wc))
        case first => as_aux_lemma =>
         clear hP1 hP2 hP3
         have H := HC75.out
         clear HC75
         by_cases c121 : (t635 != t637) = true
         ·
          rw [if_pos c121] at H
          have c121b0 : (t635 != t637) = true := c121
          (try (have c121b1 : decide (t635 = t637) = false := by simpa using c121))
          (try (have c121b2 : (t635 == t637) = false := by simpa using c121))
          (try (have c121b3 : ¬ (t635 = t637) := by simpa using c121))
          clear c121
          (first | rw [c121b0] | (simp only [i64_w, i32_w]; rw [c121b0]) | skip)
          exact absurd (H.trans (congrArg some HRT.out)) (by cases kj17 <;> simp [laws_FnRunnersRun.j4])
         ·
          rw [if_neg c121] at H
          have c121b0 : (t635 != t637) = false := by simpa using c121
          (try (have c121b1 : decide (t635 = t637) = true := by simpa using c121))
          (try (have c121b2 : (t635 == t637) = true := by simpa using c121))
          clear c121
          (first | rw [c121b0] | (simp only [i64_w, i32_w]; rw [c121b0]) | skip)
          by_cases c122 : t634 = t636
          ·
           rw [if_pos c122] at H
           have c122b0 : (t634 == t636) = true := beq_iff_eq.mpr c122
           have c122b1 : (t634 != t636) = false := bne_eq_false_iff_eq.mpr c122
           clear c122
           by_cases c123 : (t639 != t641) = true
           ·
            rw [if_pos c123] at H
            have c123b0 : (t639 != t641) = true := c123
            (try (have c123b1 : decide (t639 = t641) = false := by simpa using c123))
            (try (have c123b2 : (t639 == t641) = false := by simpa using c123))
            (try (have c123b3 : ¬ (t639 = t641) := by simpa using c123))
            clear c123
            exact absurd (H.trans (congrArg some HRT.out)) (by cases kj17 <;> simp [laws_FnRunnersRun.j4])
           ·
            rw [if_neg c123] at H
            have c123b0 : (t639 != t641) = false := by simpa using c123
            (try (have c123b1 : decide (t639 = t641) = true := by simpa using c123))
            (try (have c123b2 : (t639 == t641) = true := by simpa using c123))
            clear c123
            by_cases c124 : t638 = t640
            ·
             rw [if_pos c124] at H
             have c124b0 : (t638 == t640) = true := beq_iff_eq.mpr c124
             have c124b1 : (t638 != t640) = false := bne_eq_false_iff_eq.mpr c124
             clear c124
             by_cases c125 : (t648 != t650) = true
             ·
              rw [if_pos c125] at H
              have c125b0 : (t648 != t650) = true := c125
              (try (have c125b1 : decide (t648 = t650) = false := by simpa using c125))
              (try (have c125b2 : (t648 == t650) = false := by simpa using c125))
              (try (have c125b3 : ¬ (t648 = t650) := by simpa using c125))
              clear c125
              exact absurd (H.trans (congrArg some HRT.out)) (by cases kj17 <;> simp [laws_FnRunnersRun.j4])
             ·
              rw [if_neg c125] at H
              have c125b0 : (t648 != t650) = false := by simpa using c125
              (try (have c125b1 : decide (t648 = t650) = true := by simpa using c125))
              (try (have c125b2 : (t648 == t650) = true := by simpa using c125))
              clear c125
              by_cases c126 : t647 = t649
              ·
               rw [if_pos c126] at H
               have c126b0 : (t647 == t649) = true := beq_iff_eq.mpr c126
               have c126b1 : (t647 != t649) = false := bne_eq_false_iff_eq.mpr c126
               clear c126
               by_cases c127 : (t660 != t662) = true
               ·
                rw [if_pos c127] at H
                have c127b0 : (t660 != t662) = true := c127
                (try (have c127b1 : decide (t660 = t662) = false := by simpa using c127))
                (try (have c127b2 : (t660 == t662) = false := by simpa using c127))
                (try (have c127b3 : ¬ (t660 = t662) := by simpa using c127))
                clear c127
                exact absurd (H.trans (congrArg some HRT.out)) (by cases kj17 <;> simp [laws_FnRunnersRun.j4])
               ·
                rw [if_neg c127] at H
                have c127b0 : (t660 != t662) = false := by simpa using c127
                (try (have c127b1 : decide (t660 = t662) = true := by simpa using c127))
                (try (have c127b2 : (t660 == t662) = true := by simpa using c127))
                clear c127
                by_cases c128 : t659 = t661
                ·
                 rw [if_pos c128] at H
                 have c128b0 : (t659 == t661) = true := beq_iff_eq.mpr c128
                 have c128b1 : (t659 != t661) = false := bne_eq_false_iff_eq.mpr c128
                 clear c128
                 by_cases c129 : (t665 != t668) = true
                 ·
                  rw [if_pos c129] at H
                  have c129b0 : (t665 != t668) = true := c129
                  (try (have c129b1 : decide (t665 = t668) = false := by simpa using c129))
                  (try (have c129b2 : (t665 == t668) = false := by simpa using c129))
                  (try (have c129b3 : ¬ (t665 = t668) := by simpa using c129))
                  clear c129
                  exact absurd (H.trans (congrArg some HRT.out)) (by cases kj17 <;> simp [laws_FnRunnersRun.j4])
                 ·
                  rw [if_neg c129] at H
                  have c129b0 : (t665 != t668) = false := by simpa using c129
                  (try (have c129b1 : decide (t665 = t668) = true := by simpa using c129))
                  (try (have c129b2 : (t665 == t668) = true := by simpa using c129))
                  clear c129
                  by_cases c130 : t663 = t666
                  ·
                   rw [if_pos c130] at H
                   have c130b0 : (t663 == t666) = true := beq_iff_eq.mpr c130
                   have c130b1 : (t663 != t666) = false := bne_eq_false_iff_eq.mpr c130
                   clear c130
                   by_cases c131 : t664 = t667
                   ·
                    rw [if_pos c131] at H
                    have c131b0 : (t664 == t667) = true := beq_iff_eq.mpr c131
                    have c131b1 : (t664 != t667) = false := bne_eq_false_iff_eq.mpr c131
                    clear c131
                    by_cases c132 : (t675 != t679) = true
                    ·
                     rw [if_pos c132] at H
                     have c132b0 : (t675 != t679) = true := c132
                     (try (have c132b1 : decide (t675 = t679) = false := by simpa using c132))
                     (try (have c132b2 : (t675 == t679) = false := by simpa using c132))
                     (try (have c132b3 : ¬ (t675 = t679) := by simpa using c132))
                     clear c132
                     exact absurd (H.trans (congrArg some HRT.out)) (by cases kj17 <;> simp [laws_FnRunnersRun.j4])
                    ·
                     rw [if_neg c132] at H
                     have c132b0 : (t675 != t679) = false := by simpa using c132
                     (try (have c132b1 : decide (t675 = t679) = true := by simpa using c132))
                     (try (have c132b2 : (t675 == t679) = true := by simpa using c132))
                     clear c132
                     replace H := ob_ H
                     obtain ⟨t708, A133, H⟩ := H
                     (try dsimp only at H)
                     by_cases c134 : t708 = true
                     ·
                      subst c134
                      rw [if_pos rfl] at H
                      by_cases c135 : (t689 != t691) = true
                      ·
                       rw [if_pos c135] at H
                       have c135b0 : (t689 != t691) = true := c135
                       (try (have c135b1 : decide (t689 = t691) = false := by simpa using c135))
                       (try (have c135b2 : (t689 == t691) = false := by simpa using c135))
                       (try (have c135b3 : ¬ (t689 = t691) := by simpa using c135))
                       clear c135
                       exact absurd (H.trans (congrArg some HRT.out)) (by cases kj17 <;> simp [laws_FnRunnersRun.j4])
                      ·
                       rw [if_neg c135] at H
                       have c135b0 : (t689 != t691) = false := by simpa using c135
                       (try (have c135b1 : decide (t689 = t691) = true := by simpa using c135))
                       (try (have c135b2 : (t689 == t691) = true := by simpa using c135))
                       clear c135
                       by_cases c136 : t688 = t690
                       ·
                        rw [if_pos c136] at H
                        have c136b0 : (t688 == t690) = true := beq_iff_eq.mpr c136
                        have c136b1 : (t688 != t690) = false := bne_eq_false_iff_eq.mpr c136
                        clear c136
                        by_cases c137 : (t696 != t698) = true
                        ·
                         rw [if_pos c137] at H
                         have c137b0 : (t696 != t698) = true := c137
                         (try (have c137b1 : decide (t696 = t698) = false := by simpa using c137))
                         (try (have c137b2 : (t696 == t698) = false := by simpa using c137))
                         (try (have c137b3 : ¬ (t696 = t698) := by simpa using c137))
                         clear c137
                         exact absurd (H.trans (congrArg some HRT.out)) (by cases kj17 <;> simp [laws_FnRunnersRun.j4])
                        ·
                         rw [if_neg c137] at H
                         have c137b0 : (t696 != t698) = false := by simpa using c137
                         (try (have c137b1 : decide (t696 = t698) = true := by simpa using c137))
                         (try (have c137b2 : (t696 == t698) = true := by simpa using c137))
                         clear c137
                         by_cases c138 : t695.toList = t697.toList
                         ·
                          rw [if_pos c138] at H
                          have c138b0 : (t695.toList == t697.toList) = true := beq_iff_eq.mpr c138
                          have c138b1 : (t695.toList != t697.toList) = false := bne_eq_false_iff_eq.mpr c138
                          clear c138
                          by_cases c139 : (t701 != t705) = true
                          ·
                           rw [if_pos c139] at H
                           have c139b0 : (t701 != t705) = true := c139
                           (try (have c139b1 : decide (t701 = t705) = false := by simpa using c139))
                           (try (have c139b2 : (t701 == t705) = false := by simpa using c139))
                           (try (have c139b3 : ¬ (t701 = t705) := by simpa using c139))
                           clear c139
                           exact absurd (H.trans (congrArg some HRT.out)) (by cases kj17 <;> simp [laws_FnRunnersRun.j4])
                          ·
                           rw [if_neg c139] at H
                           have c139b0 : (t701 != t705) = false := by simpa using c139
                           (try (have c139b1 : decide (t701 = t705) = true := by simpa using c139))
                           (try (have c139b2 : (t701 == t705) = true := by simpa using c139))
                           clear c139
                           replace H := ob_ H
                           obtain ⟨t709, A140, H⟩ := H
                           (try dsimp only at H)
                           by_cases c141 : t709 = true
                           ·
                            subst c141
                            rw [if_pos rfl] at H
                            have H' := A_ H
                            clear H
                            obtain ⟨Ao142, co142, eo142⟩ := Kd.R_slice HO677.out
                            subst eo142
                            obtain ⟨Ao143, co143, eo143⟩ := Kd.R_slice HO681.out
                            subst eo143
                            go_wp2_with (first | (go_at_call 8; (with_reducible refine (laws_qSame.calls kj17 _ _ t674 _ _ t678 true _ ?side1 ?side2 ?side3 ?side4 A133.out).mono ?_); (case side1 => repeat (first | exact (Kd.R_reads' HO677.out).2.2 | (with_reducible refine Kd.C_alloc ?_ _) | (with_reducible refine Kd.C_drewN ?_ _) | (with_reducible refine Kd.C_drew ?_))); (case side2 => exact (Kd.R_reads' HO677.out).2.1); (case side3 => repeat (first | exact (Kd.R_reads' HO681.out).2.2 | (with_reducible refine Kd.C_alloc ?_ _) | (with_reducible refine Kd.C_drewN ?_ _) | (with_reducible refine Kd.C_drew ?_))); (case side4 => exact (Kd.R_reads' HO681.out).2.1); rintro e w' ⟨rfl, ⟨nd, rfl⟩⟩; obtain ⟨Ao144, co144, eo144⟩ := Kd.R_slice HO703.out; subst eo144; obtain ⟨Ao145, co145, eo145⟩ := Kd.R_slice HO707.out; subst eo145) | (go_at_call 36; (with_reducible refine (laws_qRunners.calls kj17 _ _ t700 _ _ t704 true _ ?side1 ?side2 ?side3 ?side4 A140.out).mono ?_); (case side1 => repeat (first | exact (Kd.R_reads' HO703.out).2.2 | (with_reducible refine Kd.C_alloc ?_ _) | (with_reducible refine Kd.C_drewN ?_ _) | (with_reducible refine Kd.C_drew ?_))); (case side2 => exact (Kd.R_reads' HO703.out).2.1); (case side3 => repeat (first | exact (Kd.R_reads' HO707.out).2.2 | (with_reducible refine Kd.C_alloc ?_ _) | (with_reducible refine Kd.C_drewN ?_ _) | (with_reducible refine Kd.C_drew ?_))); (case side4 => exact (Kd.R_reads' HO707.out).2.1); rintro e w' ⟨rfl, ⟨nd, rfl⟩⟩))
                            go_meet
                            case rel => exact ⟨_, ((t635 != t639)), (rs_), H', ⟨by have := HJ7.out; have := HJ17.out; first | omega | exact Nat.le_refl _⟩, ⟨by (with_reducible repeat (first | apply Kd.R_alloc | apply Kd.R_drewN | apply Kd.R_drew)); exact Kd.R_mono HO646.out (fun _ hk => ⟨hk.1.1.1.1.2, ⟨hk.1.1.2, ⟨hk.1.2, ⟨hk.1.1.1.1.1.1.1.2, ⟨hk.1.1.1.1.1.1.2, hk.1.1.1.1.1.2⟩⟩⟩⟩⟩)⟩, ⟨by (with_reducible repeat (first | apply Kd.R_alloc | apply Kd.R_drewN | apply Kd.R_drew)); exact Kd.R_mono HO673.out (fun _ hk => ⟨hk.1.1.1.1.1.1.1.2, ⟨hk.1.1.2, ⟨hk.1.2, ⟨hk.1.1.1.1.1.1.2, ⟨hk.1.1.1.1.1.2, hk.1.1.1.1.2⟩⟩⟩⟩⟩)⟩, ⟨by (with_reducible repeat (first | apply Kd.R_alloc | apply Kd.R_drewN | apply Kd.R_drew)); exact Kd.R_mono HO677.out (fun _ hk => trivial)⟩, ⟨by (with_reducible repeat (first | apply Kd.R_alloc | apply Kd.R_drewN | apply Kd.R_drew)); exact Kd.R_mono HO694.out (fun _ hk => ⟨hk.1.1.1.1.1.1.1.2, ⟨hk.1.1.1.1.1.1.2, ⟨hk.1.2, ⟨hk.1.1.1.1.2, ⟨hk.1.1.1.2, hk.1.1.2⟩⟩⟩⟩⟩)⟩, ⟨by (with_reducible repeat (first | apply Kd.R_alloc | apply Kd.R_drewN | apply Kd.R_drew)); exact Kd.R_mono HO703.out (fun _ hk => ⟨hk.1.1.1.1.1.1.1.2, ⟨hk.1.1.1.1.1.1.2, ⟨hk.1.1.1.1.2, ⟨hk.1.1.1.2, ⟨hk.1.1.2, hk.1.2⟩⟩⟩⟩⟩)⟩, ⟨bk_⟩, ⟨bk_⟩, ⟨bk_⟩, ⟨bw_⟩⟩
                           ·
                            replace c141 := Bool.eq_false_iff.mpr c141
                            subst c141
                            rw [if_neg (show ¬ (false = true) by decide)] at H
                            exact absurd (H.trans (congrArg some HRT.out)) (by cases kj17 <;> simp [laws_FnRunnersRun.j4])
                         ·
                          rw [if_neg c138] at H
                          have c138b0 : (t695.toList == t697.toList) = false := beq_eq_false_iff_ne.mpr c138
                          have c138b1 : (t695.toList != t697.toList) = true := bne_iff_ne.mpr c138
                          exact absurd (H.trans (congrArg some HRT.out)) (by cases kj17 <;> simp [laws_FnRunnersRun.j4])
                       ·
                        rw [if_neg c136] at H
                        have c136b0 : (t688 == t690) = false := beq_eq_false_iff_ne.mpr c136
                        have c136b1 : (t688 != t690) = true := bne_iff_ne.mpr c136
                        exact absurd (H.trans (congrArg some HRT.out)) (by cases kj17 <;> simp [laws_FnRunnersRun.j4])
                     ·
                      replace c134 := Bool.eq_false_iff.mpr c134
                      subst c134
                      rw [if_neg (show ¬ (false = true) by decide)] at H
                      exact absurd (H.trans (congrArg some HRT.out)) (by cases kj17 <;> simp [laws_FnRunnersRun.j4])
                   ·
                    rw [if_neg c131] at H
                    have c131b0 : (t664 == t667) = false := beq_eq_false_iff_ne.mpr c131
                    have c131b1 : (t664 != t667) = true := bne_iff_ne.mpr c131
                    exact absurd (H.trans (congrArg some HRT.out)) (by cases kj17 <;> simp [laws_FnRunnersRun.j4])
                  ·
                   rw [if_neg c130] at H
                   have c130b0 : (t663 == t666) = false := beq_eq_false_iff_ne.mpr c130
                   have c130b1 : (t663 != t666) = true := bne_iff_ne.mpr c130
                   exact absurd (H.trans (congrArg some HRT.out)) (by cases kj17 <;> simp [laws_FnRunnersRun.j4])
                ·
                 rw [if_neg c128] at H
                 have c128b0 : (t659 == t661) = false := beq_eq_false_iff_ne.mpr c128
                 have c128b1 : (t659 != t661) = true := bne_iff_ne.mpr c128
                 exact absurd (H.trans (congrArg some HRT.out)) (by cases kj17 <;> simp [laws_FnRunnersRun.j4])
              ·
               rw [if_neg c126] at H
               have c126b0 : (t647 == t649) = false := beq_eq_false_iff_ne.mpr c126
               have c126b1 : (t647 != t649) = true := bne_iff_ne.mpr c126
               exact absurd (H.trans (congrArg some HRT.out)) (by cases kj17 <;> simp [laws_FnRunnersRun.j4])
            ·
             rw [if_neg c124] at H
             have c124b0 : (t638 == t640) = false := beq_eq_false_iff_ne.mpr c124
             have c124b1 : (t638 != t640) = true := bne_iff_ne.mpr c124
             exact absurd (H.trans (congrArg some HRT.out)) (by cases kj17 <;> simp [laws_FnRunnersRun.j4])
          ·
           rw [if_neg c122] at H
           have c122b0 : (t634 == t636) = false := beq_eq_false_iff_ne.mpr c122
           have c122b1 : (t634 != t636) = true := bne_iff_ne.mpr c122
           exact absurd (H.trans (congrArg some HRT.out)) (by cases kj17 <;> simp [laws_FnRunnersRun.j4])
        case rest => as_aux_lemma =>
         clear HC75
         (try clear c1); (try clear c4); (try clear c17); (try clear hcz100_0); (try clear hcz100_1); (try clear hcz102_0); (try clear hcz102_1); (try clear hcz104_0); (try clear hcz104_1); (try clear hcz78_0); (try clear hcz78_1); (try clear hcz80_0); (try clear hcz80_1); (try clear hcz82_0); (try clear hcz82_1); (try clear hcz84_0); (try clear hcz84_1); (try clear hcz95_0); (try clear hcz95_1); (try clear hcz97_0); (try clear hcz97_1); (try clear hcz99_0); (try clear hcz99_1); (try clear hfz100_0); (try clear hfz100_1); (try clear hfz102_0); (try clear hfz102_1); (try clear hfz104_0); (try clear hfz104_1); (try clear hfz78_0); (try clear hfz78_1); (try clear hfz80_0); (try clear hfz80_1); (try clear hfz82_0); (try clear hfz82_1); (try clear hfz84_0); (try clear hfz84_1); (try clear hfz95_0); (try clear hfz95_1); (try clear hfz97_0); (try clear hfz97_1); (try clear hfz99_0); (try clear hfz99_1)
         obtain ⟨kq, x453_74, rfl, HA, HJ74, HO_28, HO_49, HO_51, HO_63, HO_69, BK633, BK657, BK658, HB⟩ := hcut
         cases kq with
         | zero => exact absurd HA.out (by simp [laws_FnRunnersRun.j4])
         | succ kj74 =>
          have H := HA.out
          clear HA
          simp only [laws_FnRunnersRun.j4] at H
          by_cases c146 : x453_74 = true
          ·
           clear hP1 hP2 hP3
           subst c146
           rw [if_pos rfl] at H
           exact absurd ((Option.some.inj H).trans HRT.out) (by decide)
          ·
           replace c146 := Bool.eq_false_iff.mpr c146
           subst c146
           rw [if_neg (show ¬ (false = true) by decide)] at H
           have HC147 := A_ H
           clear H
           go_upto_region 48 with (fail)
           go_cut [477] from 454 to 477 (fun v477 wc => ∃ (kq : Nat) (x477_146 : Bool), v477 = .bool x477_146 ∧ Aside0 (laws_FnRunnersRun.j5 kq t642 t643 t644 t647 t648 t651 t656 t659 t660 t663 t664 t665 t669 t670 t671 t674 t675 t692 t695 t696 t699 t700 t701 x477_146 t652 t653 t654 t655 = some r) ∧ Aside0 (kq ≤ kj74) ∧ Aside0 (Kd.R k35 35 wc w.heap.size (fun k_ => some k_ ≠ ((.slice Ao107 t670.length co107) : Value).ownBlock ∧ some k_ ≠ ((.slice Ao115 t692.length co115) : Value).ownBlock ∧ some k_ ≠ (v702 : Value).ownBlock ∧ k_ ≠ gb633 ∧ k_ ≠ gb657 ∧ k_ ≠ gb658) (.slice Ao87 t643.length co87) t643) ∧ Aside0 (Kd.R k35 35 wc w.heap.size (fun k_ => some k_ ≠ ((.slice Ao87 t643.length co87) : Value).ownBlock ∧ some k_ ≠ ((.slice Ao115 t692.length co115) : Value).ownBlock ∧ some k_ ≠ (v702 : Value).ownBlock ∧ k_ ≠ gb633 ∧ k_ ≠ gb657 ∧ k_ ≠ gb658) (.slice Ao107 t670.length co107) t670) ∧ Aside0 (Kd.R (Kd.int .i64) 3 wc w.heap.size (fun _ => True) v676 t674) ∧ Aside0 (Kd.R k35 35 wc w.heap.size (fun k_ => some k_ ≠ ((.slice Ao87 t643.length co87) : Value).ownBlock ∧ some k_ ≠ ((.slice Ao107 t670.length co107) : Value).ownBlock ∧ some k_ ≠ (v702 : Value).ownBlock ∧ k_ ≠ gb633 ∧ k_ ≠ gb657 ∧ k_ ≠ gb658) (.slice Ao115 t692.length co115) t692) ∧ Aside0 (Kd.R k35 35 wc w.heap.size (fun k_ => some k_ ≠ ((.slice Ao87 t643.length co87) : Value).ownBlock ∧ some k_ ≠ ((.slice Ao107 t670.length co107) : Value).ownBlock ∧ some k_ ≠ ((.slice Ao115 t692.length co115) : Value).ownBlock ∧ k_ ≠ gb633 ∧ k_ ≠ gb657 ∧ k_ ≠ gb658) v702 t700) ∧ Aside0 (wc.heap[gb633]? = some (.cells #[.int .i64 t630, .int .i64 t631] 35 (0, 0))) ∧ Aside0 (wc.heap[gb657]? = some (.cells #[.int .i64 t652, .int .i64 t653] 35 (0, 0))) ∧ Aside0 (wc.heap[gb658]? = some (.cells #[.int .i64 t654, .int .i64 t655] 35 (0, 0))) ∧ Aside0 (Below w.heap.size w wc))
           case first => as_aux_lemma =>
            clear hP1 hP2 hP3
            have H := HC147.out
            clear HC147
            by_cases c148 : t635 = true
            ·
             subst c148
             rw [if_pos rfl] at H
             by_cases c149 : t629 = 0
             ·
              rw [if_pos c149] at H
              exact absurd H (by simp)
             ·
              rw [if_neg c149] at H
              have c149b0 : (t629 == 0) = false := beq_eq_false_iff_ne.mpr c149
              have c149b1 : (t629 != 0) = true := bne_iff_ne.mpr c149
              (first | rw [c149b0] | (simp only [i64_w, i32_w]; rw [c149b0]) | skip)
              by_cases c150 : t634 = (wrap64 (Int.tdiv (wrap64 (t631 * t632)) t629))
              ·
               rw [if_pos c150] at H
               have c150b0 : (t634 == (wrap64 (Int.tdiv (wrap64 (t631 * t632)) t629))) = true := beq_iff_eq.mpr c150
               have c150b1 : (t634 != (wrap64 (Int.tdiv (wrap64 (t631 * t632)) t629))) = false := bne_eq_false_iff_eq.mpr c150
               clear c150
               have H' := A_ H
               clear H
               have hnb151 := NB633_657.out
               have hnc151 := NB657_633.out
               have hnb152 := NB633_658.out
               have hnc152 := NB658_633.out
               have hcz153_0 := hz_ BK633.out 0 (.int .i64 t630)
               have hcz153_1 := hz_ BK633.out 1 (.int .i64 t631)
               have hfz153_0 := blk_frozen BK633.out 0
               have hfz153_1 := blk_frozen BK633.out 1
               go_wp2
               go_meet
               case rel => exact ⟨_, ((t638 != (Int.tmod (wrap64 (t630 + (wrap64 (t631 * t632)))) t629))), (rs_), H', ⟨by have := HJ7.out; have := HJ17.out; have := HJ74.out; first | omega | exact Nat.le_refl _⟩, ⟨by (with_reducible repeat (first | apply Kd.R_alloc | apply Kd.R_drewN | apply Kd.R_drew)); exact HO_28.out⟩, ⟨by (with_reducible repeat (first | apply Kd.R_alloc | apply Kd.R_drewN | apply Kd.R_drew)); exact HO_49.out⟩, ⟨by (with_reducible repeat (first | apply Kd.R_alloc | apply Kd.R_drewN | apply Kd.R_drew)); exact HO_51.out⟩, ⟨by (with_reducible repeat (first | apply Kd.R_alloc | apply Kd.R_drewN | apply Kd.R_drew)); exact HO_63.out⟩, ⟨by (with_reducible repeat (first | apply Kd.R_alloc | apply Kd.R_drewN | apply Kd.R_drew)); exact HO_69.out⟩, ⟨bk_⟩, ⟨bk_⟩, ⟨bk_⟩, ⟨bw_⟩⟩
              ·
               rw [if_neg c150] at H
               have c150b0 : (t634 == (wrap64 (Int.tdiv (wrap64 (t631 * t632)) t629))) = false := beq_eq_false_iff_ne.mpr c150
               have c150b1 : (t634 != (wrap64 (Int.tdiv (wrap64 (t631 * t632)) t629))) = true := bne_iff_ne.mpr c150
               exact absurd (H.trans (congrArg some HRT.out)) (by cases kj74 <;> simp [laws_FnRunnersRun.j5])
            ·
             replace c148 := Bool.eq_false_iff.mpr c148
             subst c148
             rw [if_neg (show ¬ (false = true) by decide)] at H
             have H' := A_ H
             clear H
             go_wp2
             go_meet
             case rel => exact ⟨_, (false), (rs_), H', ⟨by have := HJ7.out; have := HJ17.out; have := HJ74.out; first | omega | exact Nat.le_refl _⟩, ⟨by (with_reducible repeat (first | apply Kd.R_alloc | apply Kd.R_drewN | apply Kd.R_drew)); exact HO_28.out⟩, ⟨by (with_reducible repeat (first | apply Kd.R_alloc | apply Kd.R_drewN | apply Kd.R_drew)); exact HO_49.out⟩, ⟨by (with_reducible repeat (first | apply Kd.R_alloc | apply Kd.R_drewN | apply Kd.R_drew)); exact HO_51.out⟩, ⟨by (with_reducible repeat (first | apply Kd.R_alloc | apply Kd.R_drewN | apply Kd.R_drew)); exact HO_63.out⟩, ⟨by (with_reducible repeat (first | apply Kd.R_alloc | apply Kd.R_drewN | apply Kd.R_drew)); exact HO_69.out⟩, ⟨bk_⟩, ⟨bk_⟩, ⟨bk_⟩, ⟨bw_⟩⟩
           case rest => as_aux_lemma =>
            clear HC147
            (try clear c1); (try clear c4); (try clear c17); (try clear c146); (try clear hcz100_0); (try clear hcz100_1); (try clear hcz102_0); (try clear hcz102_1); (try clear hcz104_0); (try clear hcz104_1); (try clear hcz78_0); (try clear hcz78_1); (try clear hcz80_0); (try clear hcz80_1); (try clear hcz82_0); (try clear hcz82_1); (try clear hcz84_0); (try clear hcz84_1); (try clear hcz95_0); (try clear hcz95_1); (try clear hcz97_0); (try clear hcz97_1); (try clear hcz99_0); (try clear hcz99_1); (try clear hfz100_0); (try clear hfz100_1); (try clear hfz102_0); (try clear hfz102_1); (try clear hfz104_0); (try clear hfz104_1); (try clear hfz78_0); (try clear hfz78_1); (try clear hfz80_0); (try clear hfz80_1); (try clear hfz82_0); (try clear hfz82_1); (try clear hfz84_0); (try clear hfz84_1); (try clear hfz95_0); (try clear hfz95_1); (try clear hfz97_0); (try clear hfz97_1); (try clear hfz99_0); (try clear hfz99_1)
            obtain ⟨kq, x477_146, rfl, HA, HJ146, HO_28, HO_49, HO_51, HO_63, HO_69, BK633, BK657, BK658, HB⟩ := hcut
            cases kq with
            | zero => exact absurd HA.out (by simp [laws_FnRunnersRun.j5])
            | succ kj146 =>
             have H := HA.out
             clear HA
             simp only [laws_FnRunnersRun.j5] at H
             by_cases c154 : x477_146 = true
             ·
              clear hP1 hP2 hP3
              subst c154
              rw [if_pos rfl] at H
              exact absurd ((Option.some.inj H).trans HRT.out) (by decide)
             ·
              replace c154 := Bool.eq_false_iff.mpr c154
              subst c154
              rw [if_neg (show ¬ (false = true) by decide)] at H
              have HC155 := A_ H
              clear H
              go_upto_if 478 with (fail)
              go_cut [] from 479 to 547 (fun wc => ∃ (kq : Nat), Aside0 (laws_FnRunnersRun.j9 kq t651 t656 t659 t660 t663 t664 t665 t669 t670 t671 t674 t675 t692 t695 t696 t699 t700 t701 t652 t653 t654 t655 = some r) ∧ Aside0 (kq ≤ kj146) ∧ Aside0 (Kd.R k35 35 wc w.heap.size (fun k_ => some k_ ≠ ((.slice Ao115 t692.length co115) : Value).ownBlock ∧ some k_ ≠ (v702 : Value).ownBlock ∧ k_ ≠ gb633 ∧ k_ ≠ gb657 ∧ k_ ≠ gb658) (.slice Ao107 t670.length co107) t670) ∧ Aside0 (Kd.R (Kd.int .i64) 3 wc w.heap.size (fun _ => True) v676 t674) ∧ Aside0 (Kd.R k35 35 wc w.heap.size (fun k_ => some k_ ≠ ((.slice Ao107 t670.length co107) : Value).ownBlock ∧ some k_ ≠ (v702 : Value).ownBlock ∧ k_ ≠ gb633 ∧ k_ ≠ gb657 ∧ k_ ≠ gb658) (.slice Ao115 t692.length co115) t692) ∧ Aside0 (Kd.R k35 35 wc w.heap.size (fun k_ => some k_ ≠ ((.slice Ao107 t670.length co107) : Value).ownBlock ∧ some k_ ≠ ((.slice Ao115 t692.length co115) : Value).ownBlock ∧ k_ ≠ gb633 ∧ k_ ≠ gb657 ∧ k_ ≠ gb658) v702 t700) ∧ Aside0 (wc.heap[gb633]? = some (.cells #[.int .i64 t630, .int .i64 t631] 35 (0, 0))) ∧ Aside0 (wc.heap[gb657]? = some (.cells #[.int .i64 t652, .int .i64 t653] 35 (0, 0))) ∧ Aside0 (wc.heap[gb658]? = some (.cells #[.int .i64 t654, .int .i64 t655] 35 (0, 0))) ∧ Aside0 (Below w.heap.size w wc))
              case first =>
               rename_i z1_ z2_ z3_ z4_ z5_ z6_ z7_ z8_ z9_ z10_ z11_ z12_ z13_ z14_ z15_ z16_ z17_ z18_ z19_ z20_ z21_ z22_ z23_ z24_ z25_ z26_
               revert hL0 HRT hu35 HR0 HC0 HR1 HC1 A3 t603 t604 t605 A5 t608 t609 A6 t612 t613 A7 z1_ nd z2_ w9 Ao10 co10 w11 v610 w12 v614 HO615 z3_ HO607 HO611 z4_ u117 u118 u119 u120 u121 u122 u123 u124 HO_6 HO_8 z5_ kj7 HJ7 z6_ u4 u12 u13 u14 u15 u127 u128 u129 u130 u131 u132 u133 u134 u135 u136 u137 u138 u139 u140 u141 u142 u143 u144 u145 u146 u147 u148 u149 u150 u151 u152 u153 u154 u155 u156 u157 u158 u159 u160 u161 u162 u163 u164 u165 u166 u167 u168 u169 u170 u171 u172 u173 u174 u175 u176 u177 u178 u179 u180 u181 u182 u183 u184 u185 u186 u187 u188 u189 u190 u191 u192 u193 kj17 HJ17 t629 t630 t631 t632 A50 t634 t635 A51 t636 t637 A52 t638 t639 A53 t640 t641 A54 t642 t643 t644 A55 t647 t648 A56 t649 t650 A57 t651 t652 t653 t654 t655 t656 A58 t659 t660 A59 t661 t662 A60 t663 t664 t665 A61 t666 t667 t668 A62 t669 t670 t671 A63 t674 t675 A64 t678 t679 A65 t682 t683 t684 t685 A66 t688 t689 A67 t690 t691 A68 t692 A69 t695 t696 A70 t697 t698 A71 t699 A72 t700 t701 A73 t704 t705 A74 w76 gb633 w77 GW633 GE633 w79 w81 w83 w85 w86 Ao87 co87 w88 w89 w90 gb657 w91 GW657 GE657 NB633_657 NB657_633 gb658 w92 GW658 GE658 NB633_658 NB658_633 NB657_658 NB658_657 hnb93 hnc93 hnb94 hnc94 hnb96 hnc96 w98 w101 w103 w105 w106 Ao107 co107 w108 v676 w109 v680 w110 Ao111 co111 w112 w113 w114 Ao115 co115 w116 w117 w118 w119 v702 w120 v706 HO707 z7_ z8_ z9_ z10_ HO646 HO673 HO677 HO681 HO687 HO694 HO703 z11_ u354 u355 u356 u357 u358 u359 u360 u361 u362 u363 u364 u365 u366 u367 u368 u369 u370 u371 u372 u373 u374 u375 u376 u377 u378 u379 u380 u381 u382 u383 u384 u385 u386 u387 u388 u389 u390 u391 u392 u393 u394 u395 u396 u397 u398 u399 u400 u401 u402 u403 u404 u405 u406 u407 u408 u409 u410 u411 u412 u413 u414 u415 u416 u417 u418 u419 u420 u421 u422 u423 u424 u425 u426 u427 u428 u429 u430 u431 u432 u433 u434 u435 u436 u437 u438 u439 u440 u441 u442 u443 u444 u445 u446 u447 u448 u449 u450 u451 u452 z12_ z13_ z14_ z15_ z16_ z17_ z18_ z19_ z20_ kj74 HJ74 wc u454 u455 u456 u457 u458 u459 u460 u461 u462 u463 u464 u465 u466 u467 u468 u469 u470 u471 u472 u473 u474 u475 u476 HO_28 HO_49 HO_51 HO_63 HO_69 BK633 BK657 BK658 HB kj146 HJ146 HC155 z21_ z22_ z23_ z24_ z25_ z26_
               exact hP2.out
              case rest =>
               rename_i z1_ z2_ z3_ z4_ z5_ z6_ z7_ z8_ z9_ z10_ z11_ z12_ z13_ z14_ z15_ z16_ z17_ z18_ z19_ z20_ z21_ z22_ z23_ z24_
               revert hL0 HRT hu35 HR0 HC0 HR1 HC1 A3 t603 t604 t605 A5 t608 t609 A6 t612 t613 A7 z1_ nd z2_ w9 Ao10 co10 w11 v610 w12 v614 HO615 z3_ HO607 HO611 z4_ u117 u118 u119 u120 u121 u122 u123 u124 HO_6 HO_8 z5_ kj7 HJ7 z6_ z7_ u12 u13 u14 u15 u127 u128 u129 u130 u131 u132 u133 u134 u135 u136 u137 u138 u139 u140 u141 u142 u143 u144 u145 u146 u147 u148 u149 u150 u151 u152 u153 u154 u155 u156 u157 u158 u159 u160 u161 u162 u163 u164 u165 u166 u167 u168 u169 u170 u171 u172 u173 u174 u175 u176 u177 u178 u179 u180 u181 u182 u183 u184 u185 u186 u187 u188 u189 u190 u191 u192 u193 kj17 HJ17 t629 t630 t631 t632 A50 t634 t635 A51 t636 t637 A52 t638 t639 A53 t640 t641 A54 t642 t643 t644 A55 t647 t648 A56 t649 t650 A57 t651 t652 t653 t654 t655 t656 A58 t659 t660 A59 t661 t662 A60 t663 t664 t665 A61 t666 t667 t668 A62 t669 t670 t671 A63 t674 t675 A64 t678 t679 A65 t682 t683 t684 t685 A66 t688 t689 A67 t690 t691 A68 t692 A69 t695 t696 A70 t697 t698 A71 t699 A72 t700 t701 A73 t704 t705 A74 w76 gb633 w77 GW633 GE633 w79 w81 w83 w85 w86 Ao87 co87 w88 w89 w90 gb657 w91 GW657 GE657 NB633_657 NB657_633 gb658 w92 GW658 GE658 NB633_658 NB658_633 NB657_658 NB658_657 hnb93 hnc93 hnb94 hnc94 hnb96 hnc96 w98 w101 w103 w105 w106 Ao107 co107 w108 v676 w109 v680 w110 Ao111 co111 w112 w113 w114 Ao115 co115 w116 w117 w118 w119 v702 w120 v706 HO707 z8_ z9_ z10_ z11_ HO646 HO673 HO677 HO681 HO687 HO694 HO703 z12_ u354 u355 u356 u357 u358 u359 u360 u361 u362 u363 u364 u365 u366 u367 u368 u369 u370 u371 u372 u373 u374 u375 u376 u377 u378 u379 u380 u381 u382 u383 u384 u385 u386 u387 u388 u389 u390 u391 u392 u393 u394 u395 u396 u397 u398 u399 u400 u401 u402 u403 u404 u405 u406 u407 u408 u409 u410 u411 u412 u413 u414 u415 u416 u417 u418 u419 u420 u421 u422 u423 u424 u425 u426 u427 u428 u429 u430 u431 u432 u433 u434 u435 u436 u437 u438 u439 u440 u441 u442 u443 u444 u445 u446 u447 u448 u449 u450 u451 u452 z13_ z14_ z15_ z16_ z17_ z18_ z19_ z20_ z21_ kj74 HJ74 z22_ u454 u455 u456 u457 u458 u459 u460 u461 u462 u463 u464 u465 u466 u467 u468 u469 u470 u471 u472 u473 u474 u475 u476 HO_28 HO_49 HO_51 HO_63 HO_69 BK633 BK657 BK658 HB kj146 HJ146 HC155 z23_ z24_ wc u4 u73 u74 u75 u76 u77 u78 u79 u479 u480 u481 u482 u483 u484 u485 u486 u487 u488 u489 u490 u491 u492 u493 u494 u495 u496 u497 u498 u499 u500 u501 u502 u503 u504 u505 u506 u507 u508 u509 u510 u511 u512 u513 u514 u515 u516 u517 u518 u519 u520 u521 u522 u523 u524 u525 u526 u527 u528 u529 u530 u531 u532 u533 u534 u535 u536 u537 u538 u539 u540 u541 u542 u543 u544 u545 u546 u547 hcut
               exact hP3.out
end Go.Proofs.YtfkieckkmcibbaaGreatDoor.PFnRunnersRun
