-- Laid by a program of this session's (wip/gen/printp.sh): the functions that the law reaches, each with its walk.
import Derived.Test.YtfkieckkmcibbaaGreatDoorPFnRunnersRunx0
import Derived.Test.YtfkieckkmcibbaaGreatDoorPFnRunnersRunx2
import Derived.Test.YtfkieckkmcibbaaGreatDoorPFnRunnersRunx3
import Derived.Test.YtfkieckkmcibbaaGreatDoorPFnRunnersRunx7
import Derived.Test.YtfkieckkmcibbaaGreatDoorPFnRunnersRunx9
namespace Go.Proofs.YtfkieckkmcibbaaGreatDoor.PFnRunnersRun
open Go.RowKit Go.Proofs.YtfkieckkmcibbaaGreatDoorW.PrintWords Go.Proofs.YtfkieckkmcibbaaGreatDoorW.PrintLast Go.Proofs.YtfkieckkmcibbaaGreatDoorW.PrintMore
attribute [local go_sem] max2_int min2_int max_two min_two max_three min_three max_four min_four   -- for this text's walks alone
set_option linter.unusedVariables false
set_option linter.unusedSimpArgs false

/-! ### impl_WinnerOfLaps: function 25 -/
mutual
def impl_WinnerOfLaps.j0 : Nat → Int → List (S35) → Int → Bool → Option (List Int × Bool)
  | 0, _, _, _, _ => none
  | k + 1, x0, x1, x2, x23 => if x23 = true then (some (([] : List Int), false)) else (impl_WinnerOfLaps.l0 k x0 x1 x2 0 x1 (x1.length : Int) 0)
def impl_WinnerOfLaps.l0 : Nat → Int → List (S35) → Int → Int → List (S35) → Int → Int → Option (List Int × Bool)
  | 0, _, _, _, _, _, _, _ => none
  | k + 1, x0, x1, x2, x8, x24, x25, x26 => if x26 < x25 then (if 0 ≤ x26 then (if x26 < (x24.length : Int) then (impl_WinnerOfLaps.l0 k x0 x1 x2 (mx x8 ((rd_T35 x24 x26).f1)) x24 x25 (wrap64 (x26 + 1))) else (none)) else (none)) else (if x8 = 0 then (none) else (impl_WinnerOfLaps.l1 k x0 x2 (wrap64 (Int.tdiv (wrap64 ((wrap64 ((wrap64 (x2 * x0)) + x8)) - 1)) x8)) ([] : List Int) x1 (x1.length : Int) 0))
def impl_WinnerOfLaps.l1 : Nat → Int → Int → Int → List Int → List (S35) → Int → Int → Option (List Int × Bool)
  | 0, _, _, _, _, _, _, _ => none
  | k + 1, x0, x2, x11, x12, x43, x44, x45 => if x45 < x44 then (if 0 ≤ x45 then (if x45 < (x43.length : Int) then (if x0 = 0 then (none) else (if (wrap64 (Int.tdiv (wrap64 (((rd_T35 x43 x45).f1) * x11)) x0)) ≥ x2 then (if x12.length < 17592186044416 then (impl_WinnerOfLaps.l1 k x0 x2 x11 (x12 ++ [x45]) x43 x44 (wrap64 (x45 + 1))) else (none)) else (impl_WinnerOfLaps.l1 k x0 x2 x11 x12 x43 x44 (wrap64 (x45 + 1))))) else (none)) else (none)) else (some (x12, true))
end
def impl_WinnerOfLaps.f (k : Nat) (a0 : Int) (l1 : List (S35)) (a2 : Int) : Option (List Int × Bool) := (impl_AreRunners.f a0 l1).bind fun t437 => (if t437 = true then ((impl_areLaps.f a2).bind fun t438 => (impl_WinnerOfLaps.j0 k a0 l1 a2 (!t438))) else (impl_WinnerOfLaps.j0 k a0 l1 a2 true))


set_option maxHeartbeats 8000000 in
set_option maxRecDepth 100000 in
theorem impl_WinnerOfLaps.calls (k : Nat) (a0 : Int) (A1 : Option Addr) (c1 : Nat) (l1 : List (S35)) (a2 : Int) (r1 : List Int) (r2 : Bool) (w : World) (hr1 : Kd.C k35 w A1 l1.length l1) (hc1 : l1.length ≤ c1) (h : impl_WinnerOfLaps.f k a0 l1 a2 = some (r1, r2)) :
  Calls Tryz.prog 25 #[.int .i64 a0, .slice A1 l1.length c1, .int .i64 a2] w fun e w' => ∃ v0_ : Value, e = .returned (.tuple #[v0_, .bool r2]) ∧ Kd.R (Kd.int .i64) 3 w' w.heap.size (fun _ => True) v0_ r1 ∧ Below w.heap.size w w' := by
 have hu35 := Tryz.underlying35
 have HR1 := A_ hr1
 have HC1 := A_ hc1
 clear hr1 hc1
 have HB := A_ (Below.refl w.heap.size w)
 have H := h
 unfold impl_WinnerOfLaps.f at H
 clear h
 have HC4 := A_ H
 clear H
 go_enter Tryz.func25, Tryz.ntmps25
 go_upto_region 1 with (fail)
 go_cut [23] (fun v23 wc => ∃ (kq : Nat) (x23_3 : Bool), v23 = .bool x23_3 ∧ Aside0 (impl_WinnerOfLaps.j0 kq a0 l1 a2 x23_3 = some (r1, r2)) ∧ Aside0 (kq ≤ k) ∧ Aside0 (Below w.heap.size w wc))
 case first =>
  have H := HC4.out
  clear HC4
  replace H := ob_ H
  obtain ⟨t437, A5, H⟩ := H
  (try dsimp only at H)
  by_cases c6 : t437 = true
  ·
   subst c6
   rw [if_pos rfl] at H
   replace H := ob_ H
   obtain ⟨t438, A7, H⟩ := H
   (try dsimp only at H)
   have H' := A_ H
   clear H
   go_wp2_with (first | ((with_reducible refine gate_callee (f := 42) rfl ?_); refine gl_ (some 17) Tryz.func42 #[.int .i64 a0, .slice A1 l1.length c1] ?_; (with_reducible refine (impl_AreRunners.calls a0 _ _ l1 true _ ?side1 ?side2 A5.out).mono ?_); (case side1 => repeat (first | exact (Kd.C_below HR1.out HB.out) | (with_reducible refine Kd.C_alloc ?_ _) | (with_reducible refine Kd.C_drewN ?_ _) | (with_reducible refine Kd.C_drew ?_))); (case side2 => exact HC1.out); rintro e w8 ⟨rfl, hb⟩; refine ⟨_, rfl, ?_⟩; replace HB := A_ (below_step bw_ hb); (try clear hb)) | (go_at_call 65; (with_reducible refine (impl_areLaps.calls a2 t438 _ A7.out).mono ?_); rintro e w' ⟨rfl, ⟨nd, rfl⟩⟩))
   go_meet
   case rel => exact ⟨_, (!t438), (rs_), H', ⟨by first | omega | exact Nat.le_refl _⟩, ⟨bw_⟩⟩
  ·
   replace c6 := Bool.eq_false_iff.mpr c6
   subst c6
   rw [if_neg (show ¬ (false = true) by decide)] at H
   have H' := A_ H
   clear H
   go_wp2_with (first | ((with_reducible refine gate_callee (f := 42) rfl ?_); refine gl_ (some 17) Tryz.func42 #[.int .i64 a0, .slice A1 l1.length c1] ?_; (with_reducible refine (impl_AreRunners.calls a0 _ _ l1 false _ ?side1 ?side2 A5.out).mono ?_); (case side1 => repeat (first | exact (Kd.C_below HR1.out HB.out) | (with_reducible refine Kd.C_alloc ?_ _) | (with_reducible refine Kd.C_drewN ?_ _) | (with_reducible refine Kd.C_drew ?_))); (case side2 => exact HC1.out); rintro e w9 ⟨rfl, hb⟩; refine ⟨_, rfl, ?_⟩; replace HB := A_ (below_step bw_ hb); (try clear hb)))
   go_meet
   case rel => exact ⟨_, (true), (rs_), H', ⟨by first | omega | exact Nat.le_refl _⟩, ⟨bw_⟩⟩
 case rest =>
  clear HC4
  try clear c1
  try clear c2
  try clear p2
  try clear c4
  try clear c6
  obtain ⟨kq, x23_3, rfl, HA, HJ3, HB⟩ := hcut
  cases kq with
    | zero => exact absurd HA.out (by simp [impl_WinnerOfLaps.j0])
    | succ kj3 =>
   have H := HA.out
   clear HA
   simp only [impl_WinnerOfLaps.j0] at H
   by_cases c10 : x23_3 = true
   ·
    subst c10
    rw [if_pos rfl] at H
    simp only [Option.some.injEq, Prod.mk.injEq] at H
    obtain ⟨rfl, rfl⟩ := H
    go_wp2
    go_ret2
    exact ⟨_, rt_, by first | exact Kd.R_nil _ _ _ _ _ | exact Kd.N_nil _ _ _ _ _ | exact Kd.V_nil _ _ _ _ _ | exact Kd.Q_nil _ _ _ _ _ | exact Kd.S_nil _ _ _ _ _, bw_⟩
   ·
    replace c10 := Bool.eq_false_iff.mpr c10
    subst c10
    rw [if_neg (show ¬ (false = true) by decide)] at H
    have H' := A_ H
    clear H
    go_wp2
    go_loopg [8, 26] kj3 (fun kq v8 v26 w' => ∃ (x8_2 : Int) (x26_2 : Int), v8 = .int .i64 x8_2 ∧ v26 = .int .i64 x26_2 ∧ Aside0 (impl_WinnerOfLaps.l0 kq a0 l1 a2 x8_2 l1 (l1.length : Int) x26_2 = some (r1, r2)) ∧ Aside0 (kq ≤ kj3) ∧ Aside0 (Below w.heap.size w w'))
    case atStart => exact ⟨(0), (0), (rs_), (rs_), H', ⟨Nat.le_refl _⟩, ⟨bw_⟩⟩
    case round =>
     clear H'
     try clear c1
     try clear c2
     try clear p2
     try clear c4
     try clear c6
     try clear c10
     try clear p2
     obtain ⟨x8_2, x26_2, rfl, rfl, HA, HK2, HB⟩ := hrel
     cases gk with
          | zero => exact absurd HA.out (by simp [impl_WinnerOfLaps.l0])
          | succ k2 =>
      have H := HA.out
      clear HA
      simp only [impl_WinnerOfLaps.l0] at H
      by_cases c11 : x26_2 < (l1.length : Int)
      ·
       rw [if_pos c11] at H
       replace c11 := decide_eq_true c11
       by_cases c12 : 0 ≤ x26_2
       ·
        rw [if_pos c12] at H
        replace c12 := decide_eq_true c12
        by_cases c13 : x26_2 < (l1.length : Int)
        ·
         rw [if_pos c13] at H
         replace c13 := decide_eq_true c13
         obtain ⟨ji14, hji14⟩ : ∃ j_ : Int, (mx x8_2 ((rd_T35 l1 x26_2).f1)) = j_ := ⟨_, rfl⟩
         replace H : (impl_WinnerOfLaps.l0 k2 a0 l1 a2 ji14 l1 (l1.length : Int) (wrap64 (x26_2 + 1))) = some (r1, r2) := by first | (rw [hji14] at H; exact H) | (simp only [hji14] at H ⊢; exact H)
         have hji14_ : (if x8_2 < ((rd_T35 l1 x26_2).f1) then ((rd_T35 l1 x26_2).f1) else x8_2) = ji14 := hji14
         have H' := A_ H
         clear H
         have p439 : 0 ≤ (x26_2 : Int) := of_decide_eq_true (by first | (with_reducible assumption) | assumption)
         have q439 : x26_2 < (l1.length : Int) := of_decide_eq_true (by first | (with_reducible assumption) | assumption)
         obtain ⟨ad439, e439, hx439_0, hx439_1⟩ := at_T35 HR1.out x26_2 p439 q439
         cases e439
         replace hx439_0 := (HB.out.cell (World.block_lt_of_cell? w _ hx439_0)).trans hx439_0
         replace hx439_1 := (HB.out.cell (World.block_lt_of_cell? w _ hx439_1)).trans hx439_1
         replace p439 := eq_true p439
         replace q439 := eq_true q439
         go_wp2_with (first | ((with_reducible refine gate_dst (N := 10) rfl ?_); refine be_ 10 #[.int .i64 0, .int .i64 0] 35 ?_; intro gb440 hg w15 hbox hb; have BK440 := A_ hbox; have GW440 := A_ (bz_ (w := w) hg); have GE440 := A_ (bz_ (w := w) hg); replace HB := A_ (below_step bw_ hb); clear hb hbox hg; have hcz16_0 := hz_ BK440.out 0 (.int .i64 0); have hcz16_1 := hz_ BK440.out 1 (.int .i64 0); have hfz16_0 := blk_frozen BK440.out 0; have hfz16_1 := blk_frozen BK440.out 1))
         go_roundg k2
         case measure => have := HJ3.out; have := HK2.out; omega
         case rel => exact ⟨(ji14), (wrap64 (x26_2 + 1)), (by first | rfl | (simp; done) | (simp only [← hji14] <;> (first | rfl | simp)) | (simp [*]; done)), (rs_), H', ⟨by have := HJ3.out; have := HK2.out; omega⟩, ⟨bw_⟩⟩
        ·
         rw [if_neg c13] at H
         exact absurd H (by simp)
       ·
        rw [if_neg c12] at H
        exact absurd H (by simp)
      ·
       rw [if_neg c11] at H
       replace c11 := decide_eq_false c11
       by_cases c17 : x8_2 = 0
       ·
        rw [if_pos c17] at H
        exact absurd H (by simp)
       ·
        rw [if_neg c17] at H
        have c17b0 : (x8_2 == 0) = false := beq_eq_false_iff_ne.mpr c17
        have c17b1 : (x8_2 != 0) = true := bne_iff_ne.mpr c17
        have H' := A_ H
        clear H
        go_wp2
        go_loopg [12, 45] k2 (fun kq v12 v45 w' => ∃ (x12_3 : List Int) (x45_3 : Int), v45 = .int .i64 x45_3 ∧ Aside0 (impl_WinnerOfLaps.l1 kq a0 a2 (wrap64 (Int.tdiv (wrap64 ((wrap64 ((wrap64 (a2 * a0)) + x8_2)) - 1)) x8_2)) x12_3 l1 (l1.length : Int) x45_3 = some (r1, r2)) ∧ Aside0 (kq ≤ k2) ∧ Aside0 (Kd.R (Kd.int .i64) 3 w' w.heap.size (fun _ => True) v12 x12_3) ∧ Aside0 (Below w.heap.size w w'))
        case atStart => exact ⟨(([] : List Int)), (0), (rs_), H', ⟨Nat.le_refl _⟩, ⟨by first | exact Kd.R_nil _ _ _ _ _ | exact Kd.N_nil _ _ _ _ _ | exact Kd.V_nil _ _ _ _ _ | exact Kd.Q_nil _ _ _ _ _ | exact Kd.S_nil _ _ _ _ _⟩, ⟨bw_⟩⟩
        case round =>
         clear H'
         try clear c1
         try clear c2
         try clear p2
         try clear c4
         try clear p4
         try clear q4
         try clear hx4
         try clear c6
         try clear p6
         try clear c10
         try clear c11
         try clear c12
         try clear c13
         try clear c17
         try clear c17b0
         try clear c17b1
         try clear hcz16_0
         try clear hcz16_1
         try clear hfz16_0
         try clear hfz16_1
         try clear hx439_0
         try clear hx439_1
         try clear p2
         try clear p439
         try clear q439
         obtain ⟨x12_3, x45_3, rfl, HA, HK3, HO_12, HB⟩ := hrel
         cases gk with
                  | zero => exact absurd HA.out (by simp [impl_WinnerOfLaps.l1])
                  | succ k3 =>
          have H := HA.out
          clear HA
          simp only [impl_WinnerOfLaps.l1] at H
          by_cases c18 : x45_3 < (l1.length : Int)
          ·
           rw [if_pos c18] at H
           replace c18 := decide_eq_true c18
           by_cases c19 : 0 ≤ x45_3
           ·
            rw [if_pos c19] at H
            replace c19 := decide_eq_true c19
            by_cases c20 : x45_3 < (l1.length : Int)
            ·
             rw [if_pos c20] at H
             replace c20 := decide_eq_true c20
             by_cases c21 : a0 = 0
             ·
              rw [if_pos c21] at H
              exact absurd H (by simp)
             ·
              rw [if_neg c21] at H
              have c21b0 : (a0 == 0) = false := beq_eq_false_iff_ne.mpr c21
              have c21b1 : (a0 != 0) = true := bne_iff_ne.mpr c21
              by_cases c22 : (wrap64 (Int.tdiv (wrap64 (((rd_T35 l1 x45_3).f1) * (wrap64 (Int.tdiv (wrap64 ((wrap64 ((wrap64 (a2 * a0)) + x8_2)) - 1)) x8_2)))) a0)) ≥ a2
              ·
               rw [if_pos c22] at H
               replace c22 := decide_eq_true (ge_iff_le.mp c22)
               by_cases c23 : x12_3.length < 17592186044416
               ·
                rw [if_pos c23] at H
                have LMc23 := A_ c23
                clear c23
                obtain ⟨y443, hy443⟩ : ∃ y_ : List Int, y_ = (x12_3 ++ [x45_3]) := ⟨_, rfl⟩
                replace H : (impl_WinnerOfLaps.l1 k3 a0 a2 (wrap64 (Int.tdiv (wrap64 ((wrap64 ((wrap64 (a2 * a0)) + x8_2)) - 1)) x8_2)) y443 l1 (l1.length : Int) (wrap64 (x45_3 + 1))) = some (r1, r2) := by first | (rw [hy443]; with_reducible exact H) | (have H2_ := (Option.bind_some _ _).symm.trans H; rw [hy443]; with_reducible exact H2_) | (have H2_ := (Option.bind_some _ _).symm.trans H; with_reducible exact H2_) | with_reducible exact H | (rw [hy443]; exact H) | exact H
                have Ny443 := A_ hy443
                clear hy443
                have H' := A_ H
                clear H
                have p441 : 0 ≤ (x45_3 : Int) := of_decide_eq_true (by first | (with_reducible assumption) | assumption)
                have q441 : x45_3 < (l1.length : Int) := of_decide_eq_true (by first | (with_reducible assumption) | assumption)
                obtain ⟨ad441, e441, hx441_0, hx441_1⟩ := at_T35 HR1.out x45_3 p441 q441
                cases e441
                replace hx441_0 := (HB.out.cell (World.block_lt_of_cell? w _ hx441_0)).trans hx441_0
                replace hx441_1 := (HB.out.cell (World.block_lt_of_cell? w _ hx441_1)).trans hx441_1
                replace p441 := eq_true p441
                replace q441 := eq_true q441
                go_wp2_with (first | ((with_reducible refine gate_dst (N := 14) rfl ?_); refine be_ 14 #[.int .i64 0, .int .i64 0] 35 ?_; intro gb442 hg w24 hbox hb; have BK442 := A_ hbox; have GW442 := A_ (bz_ (w := w) hg); have GE442 := A_ (bz_ (w := w) hg); replace HB := A_ (below_step bw_ hb); replace HO_12 := A_ (Kd.R_below (by (with_reducible repeat (first | apply Kd.R_alloc | apply Kd.R_drewN | apply Kd.R_drew)); exact HO_12.out) hb); clear hb hbox hg; have hcz25_0 := hz_ BK442.out 0 (.int .i64 0); have hcz25_1 := hz_ BK442.out 1 (.int .i64 0); have hfz25_0 := blk_frozen BK442.out 0; have hfz25_1 := blk_frozen BK442.out 1) | ((with_reducible refine gate_builtin (b := .append) (xs := #[.tmp 58, .tmp 60]) rfl ?_); at_builtin; refine Kd.R_append (Kd.int .i64) (w0 := w) w.heap.size rfl (.tmp 58) (.tmp 60) 27 3 (.int .i64 0) 8 rfl Tryz.underlying27 info3 rfl (by decide) (by omega) u12 x12_3 x45_3 [.int .i64 x45_3] (fun _ => True) (fun _ => False) rfl (by first | (go_simp; done) | (go_simp; rfl)) ?aP (fun _ hk => hk.elim) ?aF ?aO ?aB ?aS ?aL ?_; (case aP => exact rfl); (case aB => exact bw_); (case aF => exact (fun _ _ => trivial)); (case aO => exact (by (with_reducible repeat (first | apply Kd.R_alloc | apply Kd.R_drewN | apply Kd.R_drew)); exact Kd.R_mono (Kd.R_far (p := ⟨gb442, 1, none⟩) (Kd.R_far (p := ⟨gb442, 0, none⟩) (Kd.R_types HO_12.out BK442.out (by decide)) (fun _ hk => hk.2) (.int .i64 ((rd_T35 l1 x45_3).f0))) (fun _ hk => hk.2) (.int .i64 ((rd_T35 l1 x45_3).f1))) (fun _ hk => trivial))); (case aS => exact (below_size bw_)); (case aL => have := LMc23.out; omega); intro v444 w26 ho hb hg hat; rw [← Ny443.out] at ho; have HO445 := A_ (ho); replace BK442 := A_ (blk_grown (g := gb442) (o := .cells #[.int .i64 ((rd_T35 l1 x45_3).f0), .int .i64 ((rd_T35 l1 x45_3).f1)] 35 (0, 0)) (by (with_reducible repeat (first | refine blk_drewN ?_ _ | refine blk_drew ?_ | refine blk_alloc ?_ _)); refine blk_put (cs := #[.int .i64 ((rd_T35 l1 x45_3).f0), .int .i64 0]) ?_ 1 _ rfl; (with_reducible repeat (first | refine blk_drewN ?_ _ | refine blk_drew ?_ | refine blk_alloc ?_ _)); refine blk_put (cs := #[.int .i64 0, .int .i64 0]) ?_ 0 _ rfl; (with_reducible repeat (first | refine blk_drewN ?_ _ | refine blk_drew ?_ | refine blk_alloc ?_ _)); exact BK442.out) hg (Kd.R_ne HO_12.out BK442.out (by decide))); replace HB := A_ (hb); clear HO_12; clear ho hb hg hat))
                go_roundg k3
                case measure => have := HJ3.out; have := HK2.out; have := HK3.out; omega
                case rel => exact ⟨(y443), (wrap64 (x45_3 + 1)), (rs_), H', ⟨by have := HJ3.out; have := HK2.out; have := HK3.out; omega⟩, ⟨by (with_reducible repeat (first | apply Kd.R_alloc | apply Kd.R_drewN | apply Kd.R_drew)); exact HO445.out⟩, ⟨bw_⟩⟩
               ·
                rw [if_neg c23] at H
                exact absurd H (by simp)
              ·
               rw [if_neg c22] at H
               replace c22 := decide_eq_false (mt ge_iff_le.mpr c22)
               have H' := A_ H
               clear H
               have p441 : 0 ≤ (x45_3 : Int) := of_decide_eq_true (by first | (with_reducible assumption) | assumption)
               have q441 : x45_3 < (l1.length : Int) := of_decide_eq_true (by first | (with_reducible assumption) | assumption)
               obtain ⟨ad441, e441, hx441_0, hx441_1⟩ := at_T35 HR1.out x45_3 p441 q441
               cases e441
               replace hx441_0 := (HB.out.cell (World.block_lt_of_cell? w _ hx441_0)).trans hx441_0
               replace hx441_1 := (HB.out.cell (World.block_lt_of_cell? w _ hx441_1)).trans hx441_1
               replace p441 := eq_true p441
               replace q441 := eq_true q441
               go_wp2_with (first | ((with_reducible refine gate_dst (N := 14) rfl ?_); refine be_ 14 #[.int .i64 0, .int .i64 0] 35 ?_; intro gb442 hg w27 hbox hb; have BK442 := A_ hbox; have GW442 := A_ (bz_ (w := w) hg); have GE442 := A_ (bz_ (w := w) hg); replace HB := A_ (below_step bw_ hb); replace HO_12 := A_ (Kd.R_below (by (with_reducible repeat (first | apply Kd.R_alloc | apply Kd.R_drewN | apply Kd.R_drew)); exact HO_12.out) hb); clear hb hbox hg; have hcz28_0 := hz_ BK442.out 0 (.int .i64 0); have hcz28_1 := hz_ BK442.out 1 (.int .i64 0); have hfz28_0 := blk_frozen BK442.out 0; have hfz28_1 := blk_frozen BK442.out 1))
               go_roundg k3
               case measure => have := HJ3.out; have := HK2.out; have := HK3.out; omega
               case rel => exact ⟨(x12_3), (wrap64 (x45_3 + 1)), (rs_), H', ⟨by have := HJ3.out; have := HK2.out; have := HK3.out; omega⟩, ⟨by (with_reducible repeat (first | apply Kd.R_alloc | apply Kd.R_drewN | apply Kd.R_drew)); exact Kd.R_mono (Kd.R_far (p := ⟨gb442, 1, none⟩) (Kd.R_far (p := ⟨gb442, 0, none⟩) (Kd.R_types HO_12.out BK442.out (by decide)) (fun _ hk => hk.2) (.int .i64 ((rd_T35 l1 x45_3).f0))) (fun _ hk => hk.2) (.int .i64 ((rd_T35 l1 x45_3).f1))) (fun _ hk => trivial)⟩, ⟨bw_⟩⟩
            ·
             rw [if_neg c20] at H
             exact absurd H (by simp)
           ·
            rw [if_neg c19] at H
            exact absurd H (by simp)
          ·
           rw [if_neg c18] at H
           replace c18 := decide_eq_false c18
           simp only [Option.some.injEq, Prod.mk.injEq] at H
           obtain ⟨rfl, rfl⟩ := H
           go_wp2
           go_ret2
           exact ⟨_, rt_, by (with_reducible repeat (first | apply Kd.R_alloc | apply Kd.R_drewN | apply Kd.R_drew)); exact HO_12.out, bw_⟩

/-! ### spec_WinnerOfLaps: function 26 -/
mutual
def spec_WinnerOfLaps.j0 : Nat → Int → List (S35) → Int → Bool → Option (List Int × Bool)
  | 0, _, _, _, _ => none
  | k + 1, x0, x1, x2, x22 => if x22 = true then (some (([] : List Int), false)) else (spec_WinnerOfLaps.l0 k x0 x1 x2 1000000 x1 (x1.length : Int) 0)
def spec_WinnerOfLaps.l0 : Nat → Int → List (S35) → Int → Int → List (S35) → Int → Int → Option (List Int × Bool)
  | 0, _, _, _, _, _, _, _ => none
  | k + 1, x0, x1, x2, x8, x23, x24, x25 => if x25 < x24 then (if 0 ≤ x25 then (if x25 < (x23.length : Int) then (if ((rd_T35 x23 x25).f1) = 0 then (none) else ((spec_l1Least.f x8 (wrap64 (Int.tdiv (wrap64 ((wrap64 ((wrap64 (x2 * x0)) + ((rd_T35 x23 x25).f1))) - 1)) ((rd_T35 x23 x25).f1)))).bind fun t450 => (spec_WinnerOfLaps.l0 k x0 x1 x2 t450 x23 x24 (wrap64 (x25 + 1))))) else (none)) else (none)) else (spec_WinnerOfLaps.l1 k x0 x2 x8 ([] : List Int) x1 (x1.length : Int) 0)
def spec_WinnerOfLaps.l1 : Nat → Int → Int → Int → List Int → List (S35) → Int → Int → Option (List Int × Bool)
  | 0, _, _, _, _, _, _, _ => none
  | k + 1, x0, x2, x8, x11, x42, x43, x44 => if x44 < x43 then (if 0 ≤ x44 then (if x44 < (x42.length : Int) then (if (wrap64 (((rd_T35 x42 x44).f1) * x8)) ≥ (wrap64 (x2 * x0)) then (if x11.length < 17592186044416 then (spec_WinnerOfLaps.l1 k x0 x2 x8 (x11 ++ [x44]) x42 x43 (wrap64 (x44 + 1))) else (none)) else (spec_WinnerOfLaps.l1 k x0 x2 x8 x11 x42 x43 (wrap64 (x44 + 1)))) else (none)) else (none)) else (some (x11, true))
end
def spec_WinnerOfLaps.f (k : Nat) (a0 : Int) (l1 : List (S35)) (a2 : Int) : Option (List Int × Bool) := (spec_trList.f k a0 l1).bind fun t446 => (if t446 = true then ((spec_l1In.f a2 1 100).bind fun t447 => (spec_WinnerOfLaps.j0 k a0 l1 a2 (!t447))) else (spec_WinnerOfLaps.j0 k a0 l1 a2 true))


set_option maxHeartbeats 8000000 in
set_option maxRecDepth 100000 in
theorem spec_WinnerOfLaps.calls (k : Nat) (a0 : Int) (A1 : Option Addr) (c1 : Nat) (l1 : List (S35)) (a2 : Int) (r1 : List Int) (r2 : Bool) (w : World) (hr1 : Kd.C k35 w A1 l1.length l1) (hc1 : l1.length ≤ c1) (h : spec_WinnerOfLaps.f k a0 l1 a2 = some (r1, r2)) :
  Calls Tryz.prog 26 #[.int .i64 a0, .slice A1 l1.length c1, .int .i64 a2] w fun e w' => ∃ v0_ : Value, e = .returned (.tuple #[v0_, .bool r2]) ∧ Kd.R (Kd.int .i64) 3 w' w.heap.size (fun _ => True) v0_ r1 ∧ Below w.heap.size w w' := by
 have hu35 := Tryz.underlying35
 have HR1 := A_ hr1
 have HC1 := A_ hc1
 clear hr1 hc1
 have HB := A_ (Below.refl w.heap.size w)
 have H := h
 unfold spec_WinnerOfLaps.f at H
 clear h
 have HC4 := A_ H
 clear H
 go_enter Tryz.func26, Tryz.ntmps26
 go_upto_region 1 with (fail)
 go_cut [22] (fun v22 wc => ∃ (kq : Nat) (x22_3 : Bool), v22 = .bool x22_3 ∧ Aside0 (spec_WinnerOfLaps.j0 kq a0 l1 a2 x22_3 = some (r1, r2)) ∧ Aside0 (kq ≤ k) ∧ Aside0 (Below w.heap.size w wc))
 case first =>
  have H := HC4.out
  clear HC4
  replace H := ob_ H
  obtain ⟨t446, A5, H⟩ := H
  (try dsimp only at H)
  by_cases c6 : t446 = true
  ·
   subst c6
   rw [if_pos rfl] at H
   replace H := ob_ H
   obtain ⟨t447, A7, H⟩ := H
   (try dsimp only at H)
   have H' := A_ H
   clear H
   go_wp2_with (first | ((with_reducible refine gate_callee (f := 48) rfl ?_); refine gl_ (some 16) Tryz.func48 #[.int .i64 a0, .slice A1 l1.length c1] ?_; (with_reducible refine (spec_trList.calls k a0 _ _ l1 true _ ?side1 ?side2 A5.out).mono ?_); (case side1 => repeat (first | exact (Kd.C_below HR1.out HB.out) | (with_reducible refine Kd.C_alloc ?_ _) | (with_reducible refine Kd.C_drewN ?_ _) | (with_reducible refine Kd.C_drew ?_))); (case side2 => exact HC1.out); rintro e w8 ⟨rfl, hb⟩; refine ⟨_, rfl, ?_⟩; replace HB := A_ (below_step bw_ hb); (try clear hb)) | (go_at_call 67; (with_reducible refine (spec_l1In.calls a2 1 100 t447 _ A7.out).mono ?_); rintro e w' ⟨rfl, ⟨nd, rfl⟩⟩))
   go_meet
   case rel => exact ⟨_, (!t447), (rs_), H', ⟨by first | omega | exact Nat.le_refl _⟩, ⟨bw_⟩⟩
  ·
   replace c6 := Bool.eq_false_iff.mpr c6
   subst c6
   rw [if_neg (show ¬ (false = true) by decide)] at H
   have H' := A_ H
   clear H
   go_wp2_with (first | ((with_reducible refine gate_callee (f := 48) rfl ?_); refine gl_ (some 16) Tryz.func48 #[.int .i64 a0, .slice A1 l1.length c1] ?_; (with_reducible refine (spec_trList.calls k a0 _ _ l1 false _ ?side1 ?side2 A5.out).mono ?_); (case side1 => repeat (first | exact (Kd.C_below HR1.out HB.out) | (with_reducible refine Kd.C_alloc ?_ _) | (with_reducible refine Kd.C_drewN ?_ _) | (with_reducible refine Kd.C_drew ?_))); (case side2 => exact HC1.out); rintro e w9 ⟨rfl, hb⟩; refine ⟨_, rfl, ?_⟩; replace HB := A_ (below_step bw_ hb); (try clear hb)))
   go_meet
   case rel => exact ⟨_, (true), (rs_), H', ⟨by first | omega | exact Nat.le_refl _⟩, ⟨bw_⟩⟩
 case rest =>
  clear HC4
  try clear c1
  try clear c2
  try clear p2
  try clear c4
  try clear c6
  obtain ⟨kq, x22_3, rfl, HA, HJ3, HB⟩ := hcut
  cases kq with
    | zero => exact absurd HA.out (by simp [spec_WinnerOfLaps.j0])
    | succ kj3 =>
   have H := HA.out
   clear HA
   simp only [spec_WinnerOfLaps.j0] at H
   by_cases c10 : x22_3 = true
   ·
    subst c10
    rw [if_pos rfl] at H
    simp only [Option.some.injEq, Prod.mk.injEq] at H
    obtain ⟨rfl, rfl⟩ := H
    go_wp2
    go_ret2
    exact ⟨_, rt_, by first | exact Kd.R_nil _ _ _ _ _ | exact Kd.N_nil _ _ _ _ _ | exact Kd.V_nil _ _ _ _ _ | exact Kd.Q_nil _ _ _ _ _ | exact Kd.S_nil _ _ _ _ _, bw_⟩
   ·
    replace c10 := Bool.eq_false_iff.mpr c10
    subst c10
    rw [if_neg (show ¬ (false = true) by decide)] at H
    have H' := A_ H
    clear H
    go_wp2
    go_loopg [8, 25] kj3 (fun kq v8 v25 w' => ∃ (x8_2 : Int) (x25_2 : Int), v8 = .int .i64 x8_2 ∧ v25 = .int .i64 x25_2 ∧ Aside0 (spec_WinnerOfLaps.l0 kq a0 l1 a2 x8_2 l1 (l1.length : Int) x25_2 = some (r1, r2)) ∧ Aside0 (kq ≤ kj3) ∧ Aside0 (Below w.heap.size w w'))
    case atStart => exact ⟨(1000000), (0), (rs_), (rs_), H', ⟨Nat.le_refl _⟩, ⟨bw_⟩⟩
    case round =>
     clear H'
     try clear c1
     try clear c2
     try clear p2
     try clear c4
     try clear c6
     try clear c10
     try clear p2
     obtain ⟨x8_2, x25_2, rfl, rfl, HA, HK2, HB⟩ := hrel
     cases gk with
          | zero => exact absurd HA.out (by simp [spec_WinnerOfLaps.l0])
          | succ k2 =>
      have H := HA.out
      clear HA
      simp only [spec_WinnerOfLaps.l0] at H
      by_cases c11 : x25_2 < (l1.length : Int)
      ·
       rw [if_pos c11] at H
       replace c11 := decide_eq_true c11
       by_cases c12 : 0 ≤ x25_2
       ·
        rw [if_pos c12] at H
        replace c12 := decide_eq_true c12
        by_cases c13 : x25_2 < (l1.length : Int)
        ·
         rw [if_pos c13] at H
         replace c13 := decide_eq_true c13
         by_cases c14 : ((rd_T35 l1 x25_2).f1) = 0
         ·
          rw [if_pos c14] at H
          exact absurd H (by simp)
         ·
          rw [if_neg c14] at H
          have c14b0 : (((rd_T35 l1 x25_2).f1) == 0) = false := beq_eq_false_iff_ne.mpr c14
          have c14b1 : (((rd_T35 l1 x25_2).f1) != 0) = true := bne_iff_ne.mpr c14
          replace H := ob_ H
          obtain ⟨t450, A15, H⟩ := H
          (try dsimp only at H)
          have H' := A_ H
          clear H
          have p448 : 0 ≤ (x25_2 : Int) := of_decide_eq_true (by first | (with_reducible assumption) | assumption)
          have q448 : x25_2 < (l1.length : Int) := of_decide_eq_true (by first | (with_reducible assumption) | assumption)
          obtain ⟨ad448, e448, hx448_0, hx448_1⟩ := at_T35 HR1.out x25_2 p448 q448
          cases e448
          replace hx448_0 := (HB.out.cell (World.block_lt_of_cell? w _ hx448_0)).trans hx448_0
          replace hx448_1 := (HB.out.cell (World.block_lt_of_cell? w _ hx448_1)).trans hx448_1
          replace p448 := eq_true p448
          replace q448 := eq_true q448
          go_wp2_with (first | ((with_reducible refine gate_dst (N := 10) rfl ?_); refine be_ 10 #[.int .i64 0, .int .i64 0] 35 ?_; intro gb449 hg w16 hbox hb; have BK449 := A_ hbox; have GW449 := A_ (bz_ (w := w) hg); have GE449 := A_ (bz_ (w := w) hg); replace HB := A_ (below_step bw_ hb); clear hb hbox hg; have hcz17_0 := hz_ BK449.out 0 (.int .i64 0); have hcz17_1 := hz_ BK449.out 1 (.int .i64 0); have hfz17_0 := blk_frozen BK449.out 0; have hfz17_1 := blk_frozen BK449.out 1) | ((with_reducible refine gate_callee (f := 70) rfl ?_); refine gl_ (some 40) Tryz.func70 #[.int .i64 x8_2, .int .i64 (wrap64 (Int.tdiv (wrap64 ((wrap64 ((wrap64 (a2 * a0)) + ((rd_T35 l1 x25_2).f1))) - 1)) ((rd_T35 l1 x25_2).f1)))] ?_; (with_reducible refine (spec_l1Least.calls x8_2 (wrap64 (Int.tdiv (wrap64 ((wrap64 ((wrap64 (a2 * a0)) + ((rd_T35 l1 x25_2).f1))) - 1)) ((rd_T35 l1 x25_2).f1))) t450 _ A15.out).mono ?_); rintro e w' ⟨rfl, ⟨nd, rfl⟩⟩; refine ⟨_, rfl, ?_⟩))
          go_roundg k2
          case measure => have := HJ3.out; have := HK2.out; omega
          case rel => exact ⟨(t450), (wrap64 (x25_2 + 1)), (rs_), (rs_), H', ⟨by have := HJ3.out; have := HK2.out; omega⟩, ⟨bw_⟩⟩
        ·
         rw [if_neg c13] at H
         exact absurd H (by simp)
       ·
        rw [if_neg c12] at H
        exact absurd H (by simp)
      ·
       rw [if_neg c11] at H
       replace c11 := decide_eq_false c11
       have H' := A_ H
       clear H
       go_wp2
       go_loopg [11, 44] k2 (fun kq v11 v44 w' => ∃ (x11_3 : List Int) (x44_3 : Int), v44 = .int .i64 x44_3 ∧ Aside0 (spec_WinnerOfLaps.l1 kq a0 a2 x8_2 x11_3 l1 (l1.length : Int) x44_3 = some (r1, r2)) ∧ Aside0 (kq ≤ k2) ∧ Aside0 (Kd.R (Kd.int .i64) 3 w' w.heap.size (fun _ => True) v11 x11_3) ∧ Aside0 (Below w.heap.size w w'))
       case atStart => exact ⟨(([] : List Int)), (0), (rs_), H', ⟨Nat.le_refl _⟩, ⟨by first | exact Kd.R_nil _ _ _ _ _ | exact Kd.N_nil _ _ _ _ _ | exact Kd.V_nil _ _ _ _ _ | exact Kd.Q_nil _ _ _ _ _ | exact Kd.S_nil _ _ _ _ _⟩, ⟨bw_⟩⟩
       case round =>
        clear H'
        try clear c1
        try clear c2
        try clear p2
        try clear c4
        try clear p4
        try clear q4
        try clear hx4
        try clear c6
        try clear p6
        try clear c7
        try clear c10
        try clear c11
        try clear c12
        try clear c13
        try clear c14
        try clear c14b0
        try clear c14b1
        try clear hcz17_0
        try clear hcz17_1
        try clear hfz17_0
        try clear hfz17_1
        try clear hx448_0
        try clear hx448_1
        try clear p2
        try clear p448
        try clear q448
        obtain ⟨x11_3, x44_3, rfl, HA, HK3, HO_11, HB⟩ := hrel
        cases gk with
                | zero => exact absurd HA.out (by simp [spec_WinnerOfLaps.l1])
                | succ k3 =>
         have H := HA.out
         clear HA
         simp only [spec_WinnerOfLaps.l1] at H
         by_cases c18 : x44_3 < (l1.length : Int)
         ·
          rw [if_pos c18] at H
          replace c18 := decide_eq_true c18
          by_cases c19 : 0 ≤ x44_3
          ·
           rw [if_pos c19] at H
           replace c19 := decide_eq_true c19
           by_cases c20 : x44_3 < (l1.length : Int)
           ·
            rw [if_pos c20] at H
            replace c20 := decide_eq_true c20
            by_cases c21 : (wrap64 (((rd_T35 l1 x44_3).f1) * x8_2)) ≥ (wrap64 (a2 * a0))
            ·
             rw [if_pos c21] at H
             replace c21 := decide_eq_true (ge_iff_le.mp c21)
             by_cases c22 : x11_3.length < 17592186044416
             ·
              rw [if_pos c22] at H
              have LMc22 := A_ c22
              clear c22
              obtain ⟨y453, hy453⟩ : ∃ y_ : List Int, y_ = (x11_3 ++ [x44_3]) := ⟨_, rfl⟩
              replace H : (spec_WinnerOfLaps.l1 k3 a0 a2 x8_2 y453 l1 (l1.length : Int) (wrap64 (x44_3 + 1))) = some (r1, r2) := by first | (rw [hy453]; with_reducible exact H) | (have H2_ := (Option.bind_some _ _).symm.trans H; rw [hy453]; with_reducible exact H2_) | (have H2_ := (Option.bind_some _ _).symm.trans H; with_reducible exact H2_) | with_reducible exact H | (rw [hy453]; exact H) | exact H
              have Ny453 := A_ hy453
              clear hy453
              have H' := A_ H
              clear H
              have p451 : 0 ≤ (x44_3 : Int) := of_decide_eq_true (by first | (with_reducible assumption) | assumption)
              have q451 : x44_3 < (l1.length : Int) := of_decide_eq_true (by first | (with_reducible assumption) | assumption)
              obtain ⟨ad451, e451, hx451_0, hx451_1⟩ := at_T35 HR1.out x44_3 p451 q451
              cases e451
              replace hx451_0 := (HB.out.cell (World.block_lt_of_cell? w _ hx451_0)).trans hx451_0
              replace hx451_1 := (HB.out.cell (World.block_lt_of_cell? w _ hx451_1)).trans hx451_1
              replace p451 := eq_true p451
              replace q451 := eq_true q451
              go_wp2_with (first | ((with_reducible refine gate_dst (N := 13) rfl ?_); refine be_ 13 #[.int .i64 0, .int .i64 0] 35 ?_; intro gb452 hg w23 hbox hb; have BK452 := A_ hbox; have GW452 := A_ (bz_ (w := w) hg); have GE452 := A_ (bz_ (w := w) hg); replace HB := A_ (below_step bw_ hb); replace HO_11 := A_ (Kd.R_below (by (with_reducible repeat (first | apply Kd.R_alloc | apply Kd.R_drewN | apply Kd.R_drew)); exact HO_11.out) hb); clear hb hbox hg; have hcz24_0 := hz_ BK452.out 0 (.int .i64 0); have hcz24_1 := hz_ BK452.out 1 (.int .i64 0); have hfz24_0 := blk_frozen BK452.out 0; have hfz24_1 := blk_frozen BK452.out 1) | ((with_reducible refine gate_builtin (b := .append) (xs := #[.tmp 57, .tmp 59]) rfl ?_); at_builtin; refine Kd.R_append (Kd.int .i64) (w0 := w) w.heap.size rfl (.tmp 57) (.tmp 59) 27 3 (.int .i64 0) 8 rfl Tryz.underlying27 info3 rfl (by decide) (by omega) u11 x11_3 x44_3 [.int .i64 x44_3] (fun _ => True) (fun _ => False) rfl (by first | (go_simp; done) | (go_simp; rfl)) ?aP (fun _ hk => hk.elim) ?aF ?aO ?aB ?aS ?aL ?_; (case aP => exact rfl); (case aB => exact bw_); (case aF => exact (fun _ _ => trivial)); (case aO => exact (by (with_reducible repeat (first | apply Kd.R_alloc | apply Kd.R_drewN | apply Kd.R_drew)); exact Kd.R_mono (Kd.R_far (p := ⟨gb452, 1, none⟩) (Kd.R_far (p := ⟨gb452, 0, none⟩) (Kd.R_types HO_11.out BK452.out (by decide)) (fun _ hk => hk.2) (.int .i64 ((rd_T35 l1 x44_3).f0))) (fun _ hk => hk.2) (.int .i64 ((rd_T35 l1 x44_3).f1))) (fun _ hk => trivial))); (case aS => exact (below_size bw_)); (case aL => have := LMc22.out; omega); intro v454 w25 ho hb hg hat; rw [← Ny453.out] at ho; have HO455 := A_ (ho); replace BK452 := A_ (blk_grown (g := gb452) (o := .cells #[.int .i64 ((rd_T35 l1 x44_3).f0), .int .i64 ((rd_T35 l1 x44_3).f1)] 35 (0, 0)) (by (with_reducible repeat (first | refine blk_drewN ?_ _ | refine blk_drew ?_ | refine blk_alloc ?_ _)); refine blk_put (cs := #[.int .i64 ((rd_T35 l1 x44_3).f0), .int .i64 0]) ?_ 1 _ rfl; (with_reducible repeat (first | refine blk_drewN ?_ _ | refine blk_drew ?_ | refine blk_alloc ?_ _)); refine blk_put (cs := #[.int .i64 0, .int .i64 0]) ?_ 0 _ rfl; (with_reducible repeat (first | refine blk_drewN ?_ _ | refine blk_drew ?_ | refine blk_alloc ?_ _)); exact BK452.out) hg (Kd.R_ne HO_11.out BK452.out (by decide))); replace HB := A_ (hb); clear HO_11; clear ho hb hg hat))
              go_roundg k3
              case measure => have := HJ3.out; have := HK2.out; have := HK3.out; omega
              case rel => exact ⟨(y453), (wrap64 (x44_3 + 1)), (rs_), H', ⟨by have := HJ3.out; have := HK2.out; have := HK3.out; omega⟩, ⟨by (with_reducible repeat (first | apply Kd.R_alloc | apply Kd.R_drewN | apply Kd.R_drew)); exact HO455.out⟩, ⟨bw_⟩⟩
             ·
              rw [if_neg c22] at H
              exact absurd H (by simp)
            ·
             rw [if_neg c21] at H
             replace c21 := decide_eq_false (mt ge_iff_le.mpr c21)
             have H' := A_ H
             clear H
             have p451 : 0 ≤ (x44_3 : Int) := of_decide_eq_true (by first | (with_reducible assumption) | assumption)
             have q451 : x44_3 < (l1.length : Int) := of_decide_eq_true (by first | (with_reducible assumption) | assumption)
             obtain ⟨ad451, e451, hx451_0, hx451_1⟩ := at_T35 HR1.out x44_3 p451 q451
             cases e451
             replace hx451_0 := (HB.out.cell (World.block_lt_of_cell? w _ hx451_0)).trans hx451_0
             replace hx451_1 := (HB.out.cell (World.block_lt_of_cell? w _ hx451_1)).trans hx451_1
             replace p451 := eq_true p451
             replace q451 := eq_true q451
             go_wp2_with (first | ((with_reducible refine gate_dst (N := 13) rfl ?_); refine be_ 13 #[.int .i64 0, .int .i64 0] 35 ?_; intro gb452 hg w26 hbox hb; have BK452 := A_ hbox; have GW452 := A_ (bz_ (w := w) hg); have GE452 := A_ (bz_ (w := w) hg); replace HB := A_ (below_step bw_ hb); replace HO_11 := A_ (Kd.R_below (by (with_reducible repeat (first | apply Kd.R_alloc | apply Kd.R_drewN | apply Kd.R_drew)); exact HO_11.out) hb); clear hb hbox hg; have hcz27_0 := hz_ BK452.out 0 (.int .i64 0); have hcz27_1 := hz_ BK452.out 1 (.int .i64 0); have hfz27_0 := blk_frozen BK452.out 0; have hfz27_1 := blk_frozen BK452.out 1))
             go_roundg k3
             case measure => have := HJ3.out; have := HK2.out; have := HK3.out; omega
             case rel => exact ⟨(x11_3), (wrap64 (x44_3 + 1)), (rs_), H', ⟨by have := HJ3.out; have := HK2.out; have := HK3.out; omega⟩, ⟨by (with_reducible repeat (first | apply Kd.R_alloc | apply Kd.R_drewN | apply Kd.R_drew)); exact Kd.R_mono (Kd.R_far (p := ⟨gb452, 1, none⟩) (Kd.R_far (p := ⟨gb452, 0, none⟩) (Kd.R_types HO_11.out BK452.out (by decide)) (fun _ hk => hk.2) (.int .i64 ((rd_T35 l1 x44_3).f0))) (fun _ hk => hk.2) (.int .i64 ((rd_T35 l1 x44_3).f1))) (fun _ hk => trivial)⟩, ⟨bw_⟩⟩
           ·
            rw [if_neg c20] at H
            exact absurd H (by simp)
          ·
           rw [if_neg c19] at H
           exact absurd H (by simp)
         ·
          rw [if_neg c18] at H
          replace c18 := decide_eq_false c18
          simp only [Option.some.injEq, Prod.mk.injEq] at H
          obtain ⟨rfl, rfl⟩ := H
          go_wp2
          go_ret2
          exact ⟨_, rt_, by (with_reducible repeat (first | apply Kd.R_alloc | apply Kd.R_drewN | apply Kd.R_drew)); exact HO_11.out, bw_⟩

/-! ### spec_DrawNearestOthers: function 27 -/
def spec_DrawNearestOthers.f (k : Nat) (l0 : List Int) : Option (Int × (List (S35)) × Int × Int) := (spec_l1Cur_runners.f k l0 0 0).bind fun bt457 => ((spec_l1Cur_pick.f l0 bt457.2.2.1 bt457.2.2.2 (wrap64 ((bt457.2.1.length : Int) + 1))).bind fun bt463 => ((spec_l1Cur_pick.f l0 bt463.2.1 bt463.2.2 9).bind fun bt466 => ((spec_l1Cur_moment.f l0 bt466.2.1 bt466.2.2).bind fun bt469 => (some (bt457.1, bt457.2.1, wrap64 (bt463.1 - (wrap64 (Int.tdiv bt466.1 8))), bt469.1)))))

set_option maxHeartbeats 8000000 in
set_option maxRecDepth 100000 in
theorem spec_DrawNearestOthers.calls (k : Nat) (A0 : Option Addr) (c0 : Nat) (l0 : List Int) (r1 : Int) (r2 : List (S35)) (r3 : Int) (r4 : Int) (w : World) (hr0 : Kd.C (Kd.int .u8) w A0 l0.length l0) (hc0 : l0.length ≤ c0) (h : spec_DrawNearestOthers.f k l0 = some (r1, r2, r3, r4)) :
  Calls Tryz.prog 27 #[.slice A0 l0.length c0] w fun e w' => ∃ v1_ : Value, e = .returned (.tuple #[.int .i64 r1, v1_, .int .i64 r3, .int .i64 r4]) ∧ Kd.R k35 35 w' w.heap.size (fun _ => True) v1_ r2 ∧ Below w.heap.size w w' := by
 have hu60 := Tryz.underlying60
 have HR0 := A_ hr0
 have HC0 := A_ hc0
 clear hr0 hc0
 have HB := A_ (Below.refl w.heap.size w)
 have H := h
 unfold spec_DrawNearestOthers.f at H
 clear h
 replace H := ob_ H
 obtain ⟨⟨t457, t458, t461, t462⟩, A2, H⟩ := H
 (try dsimp only at H)
 replace H := ob_ H
 obtain ⟨⟨t463, t464, t465⟩, A3, H⟩ := H
 (try dsimp only at H)
 replace H := ob_ H
 obtain ⟨⟨t466, t467, t468⟩, A4, H⟩ := H
 (try dsimp only at H)
 replace H := ob_ H
 obtain ⟨⟨t469, t470, t471⟩, A5, H⟩ := H
 (try dsimp only at H)
 simp only [Option.some.injEq, Prod.mk.injEq] at H
 obtain ⟨rfl, rfl, rfl, rfl⟩ := H
 go_enter Tryz.func27, Tryz.ntmps27
 go_wp2_with (first | ((with_reducible refine gate_dst (N := 11) rfl ?_); refine be_ 11 #[.slice A0 l0.length c0, .int .i64 0, .int .u64 0] 60 ?_; intro gb456 hg w6 hbox hb; have HI456 := A_ ((⟨_, _, hbox, (by rw [hg]; exact (below_size bw_) : w.heap.size ≤ gb456), HR0.out⟩ : IsS60 w _ gb456 l0 0 0)); have GW456 := A_ (bz_ (w := w) hg); have GE456 := A_ (bz_ (w := w) hg); replace HB := A_ (below_step bw_ hb); clear hb hbox hg) | ((with_reducible refine gate_callee (f := 40) rfl ?_); refine gl_ (some 14) Tryz.func40 #[.pointer (some ⟨gb456, 0, none⟩)] ?_; (with_reducible refine (spec_l1Cur_runners.calls k gb456 l0 0 0 t457 t458 t461 t462 w _ ?side1 ?side2 A2.out).mono ?_); (case side1 => repeat (first | (with_reducible first | exact HI456.out | apply IsS60.alloc | apply IsS60.drewN | apply IsS60.drew | apply IsS60.set_1 | apply IsS60.set_2) | exact HI456.out)); (case side2 => repeat (first | (with_reducible first | exact HB.out | apply below_alloc | apply pw_below_drewN | apply below_drew1 | refine below_set ?_ (IsS60.ge HI456.out)) | exact HB.out)); rintro e w7 ⟨v459, rfl, ho0, hi, hb, hk⟩; refine ⟨_, rfl, ?_⟩; have HO460 := A_ (Kd.R_lower ho0 (below_size (by repeat (first | (with_reducible first | exact HB.out | apply below_alloc | apply pw_below_drewN | apply below_drew1 | refine below_set ?_ (IsS60.ge HI456.out)) | exact HB.out)))); replace HB := A_ (hb); replace HI456 := A_ (hi); (try clear hb hk hi); (try clear ho0); obtain ⟨Ao8, co8, eo8⟩ := Kd.R_slice HO460.out; subst eo8) | ((with_reducible refine gate_callee (f := 56) rfl ?_); refine gl_ (some 23) Tryz.func56 #[.pointer (some ⟨gb456, 0, none⟩), .int .i64 (wrap64 ((t458.length : Int) + 1))] ?_; (with_reducible refine (spec_l1Cur_pick.calls gb456 l0 t461 t462 (wrap64 ((t458.length : Int) + 1)) t463 t464 t465 w _ ?side1 ?side2 A3.out).mono ?_); (case side1 => repeat (first | (with_reducible first | exact HI456.out | apply IsS60.alloc | apply IsS60.drewN | apply IsS60.drew | apply IsS60.set_1 | apply IsS60.set_2) | exact HI456.out)); (case side2 => repeat (first | (with_reducible first | exact HB.out | apply below_alloc | apply pw_below_drewN | apply below_drew1 | refine below_set ?_ (IsS60.ge HI456.out)) | exact HB.out)); rintro e w9 ⟨rfl, hi, hb, hk⟩; refine ⟨_, rfl, ?_⟩; have n0_ := A_ (Kd.R_mono (Kd.R_keep (IsS60.apart (show IsS60 w _ gb456 l0 t461 t462 from by repeat (first | (with_reducible first | exact HI456.out | apply IsS60.alloc | apply IsS60.drewN | apply IsS60.drew | apply IsS60.set_1 | apply IsS60.set_2) | exact HI456.out)) (by (with_reducible repeat (first | apply Kd.R_alloc | apply Kd.R_drewN | apply Kd.R_drew)); exact HO460.out) (by decide)) hk (fun _ h => h.2)) (fun _ h => h.1)); have n1_ := A_ (hb); have n2_ := A_ (hi); clear HO460; clear HB; clear HI456; have HO460 := n0_; have HB := n1_; have HI456 := n2_; clear n0_ n1_ n2_; (try clear hb hk hi)) | ((with_reducible refine gate_callee (f := 56) rfl ?_); refine gl_ (some 25) Tryz.func56 #[.pointer (some ⟨gb456, 0, none⟩), .int .i64 9] ?_; (with_reducible refine (spec_l1Cur_pick.calls gb456 l0 t464 t465 9 t466 t467 t468 w _ ?side1 ?side2 A4.out).mono ?_); (case side1 => repeat (first | (with_reducible first | exact HI456.out | apply IsS60.alloc | apply IsS60.drewN | apply IsS60.drew | apply IsS60.set_1 | apply IsS60.set_2) | exact HI456.out)); (case side2 => repeat (first | (with_reducible first | exact HB.out | apply below_alloc | apply pw_below_drewN | apply below_drew1 | refine below_set ?_ (IsS60.ge HI456.out)) | exact HB.out)); rintro e w10 ⟨rfl, hi, hb, hk⟩; refine ⟨_, rfl, ?_⟩; have n0_ := A_ (Kd.R_mono (Kd.R_keep (IsS60.apart (show IsS60 w _ gb456 l0 t464 t465 from by repeat (first | (with_reducible first | exact HI456.out | apply IsS60.alloc | apply IsS60.drewN | apply IsS60.drew | apply IsS60.set_1 | apply IsS60.set_2) | exact HI456.out)) (by (with_reducible repeat (first | apply Kd.R_alloc | apply Kd.R_drewN | apply Kd.R_drew)); exact HO460.out) (by decide)) hk (fun _ h => h.2)) (fun _ h => h.1)); have n1_ := A_ (hb); have n2_ := A_ (hi); clear HO460; clear HB; clear HI456; have HO460 := n0_; have HB := n1_; have HI456 := n2_; clear n0_ n1_ n2_; (try clear hb hk hi)) | ((with_reducible refine gate_callee (f := 41) rfl ?_); refine gl_ (some 29) Tryz.func41 #[.pointer (some ⟨gb456, 0, none⟩)] ?_; (with_reducible refine (spec_l1Cur_moment.calls gb456 l0 t467 t468 t469 t470 t471 w _ ?side1 ?side2 A5.out).mono ?_); (case side1 => repeat (first | (with_reducible first | exact HI456.out | apply IsS60.alloc | apply IsS60.drewN | apply IsS60.drew | apply IsS60.set_1 | apply IsS60.set_2) | exact HI456.out)); (case side2 => repeat (first | (with_reducible first | exact HB.out | apply below_alloc | apply pw_below_drewN | apply below_drew1 | refine below_set ?_ (IsS60.ge HI456.out)) | exact HB.out)); rintro e w11 ⟨rfl, hi, hb, hk⟩; refine ⟨_, rfl, ?_⟩; have n0_ := A_ (Kd.R_mono (Kd.R_keep (IsS60.apart (show IsS60 w _ gb456 l0 t467 t468 from by repeat (first | (with_reducible first | exact HI456.out | apply IsS60.alloc | apply IsS60.drewN | apply IsS60.drew | apply IsS60.set_1 | apply IsS60.set_2) | exact HI456.out)) (by (with_reducible repeat (first | apply Kd.R_alloc | apply Kd.R_drewN | apply Kd.R_drew)); exact HO460.out) (by decide)) hk (fun _ h => h.2)) (fun _ h => h.1)); have n1_ := A_ (hb); have n2_ := A_ (hi); clear HO460; clear HB; clear HI456; have HO460 := n0_; have HB := n1_; have HI456 := n2_; clear n0_ n1_ n2_; (try clear hb hk hi)))
 refine bodyPost_ret (results_list (rs := [.tmp 2, .tmp 3, .tmp 4, .tmp 5]) rfl (by simp) (.tmp (.tmp (.tmp (.tmp .nil))))) rfl ?_
 exact ⟨_, rt_, by (with_reducible repeat (first | apply Kd.R_alloc | apply Kd.R_drewN | apply Kd.R_drew)); exact HO460.out, by repeat (first | (with_reducible first | exact HB.out | apply below_alloc | apply pw_below_drewN | apply below_drew1 | refine below_set ?_ (IsS60.ge HI456.out)) | exact HB.out)⟩

/-! ### impl_NearestOthers: function 28 -/
def impl_NearestOthers.f (k : Nat) (a0 : Int) (l1 : List (S35)) (a2 : Int) (a3 : Int) : Option (Int × Bool) := (impl_areRunnersOf.f a0 l1 a2).bind fun t472 => (if t472 = true then ((impl_isRunTime.f a3).bind fun t473 => (if t473 = true then ((impl_nearestOther.f k a0 l1 a2 a3).bind fun t474 => (some (t474, true))) else (some (0, false)))) else (some (0, false)))

set_option maxHeartbeats 8000000 in
set_option maxRecDepth 100000 in
theorem impl_NearestOthers.calls (k : Nat) (a0 : Int) (A1 : Option Addr) (c1 : Nat) (l1 : List (S35)) (a2 : Int) (a3 : Int) (r1 : Int) (r2 : Bool) (w : World) (hr1 : Kd.C k35 w A1 l1.length l1) (hc1 : l1.length ≤ c1) (h : impl_NearestOthers.f k a0 l1 a2 a3 = some (r1, r2)) :
  Calls Tryz.prog 28 #[.int .i64 a0, .slice A1 l1.length c1, .int .i64 a2, .int .i64 a3] w fun e w' => e = .returned (.tuple #[.int .i64 r1, .bool r2]) ∧ Below w.heap.size w w' := by
 have HR1 := A_ hr1
 have HC1 := A_ hc1
 clear hr1 hc1
 have HB := A_ (Below.refl w.heap.size w)
 have H := h
 unfold impl_NearestOthers.f at H
 clear h
 replace H := ob_ H
 obtain ⟨t472, A5, H⟩ := H
 (try dsimp only at H)
 by_cases c6 : t472 = true
 ·
  subst c6
  rw [if_pos rfl] at H
  replace H := ob_ H
  obtain ⟨t473, A7, H⟩ := H
  (try dsimp only at H)
  by_cases c8 : t473 = true
  ·
   subst c8
   rw [if_pos rfl] at H
   replace H := Option.bind_eq_some_iff.mp H
   obtain ⟨t474, A90, H⟩ := H
   replace H : (some (t474, true)) = some (r1, r2) := H
   have A9 := A_ A90
   clear A90
   simp only [Option.some.injEq, Prod.mk.injEq] at H
   obtain ⟨rfl, rfl⟩ := H
   go_enter Tryz.func28, Tryz.ntmps28
   go_wp2_with (first | ((with_reducible refine gate_callee (f := 57) rfl ?_); refine gl_ (some 13) Tryz.func57 #[.int .i64 a0, .slice A1 l1.length c1, .int .i64 a2] ?_; (with_reducible refine (impl_areRunnersOf.calls a0 _ _ l1 a2 true _ ?side1 ?side2 A5.out).mono ?_); (case side1 => repeat (first | exact HR1.out | (with_reducible refine Kd.C_alloc ?_ _) | (with_reducible refine Kd.C_drewN ?_ _) | (with_reducible refine Kd.C_drew ?_))); (case side2 => exact HC1.out); rintro e w10 ⟨rfl, hb⟩; refine ⟨_, rfl, ?_⟩; replace HB := A_ (below_step bw_ hb); (try clear hb)) | (go_at_call 43; (with_reducible refine (impl_isRunTime.calls a3 true _ A7.out).mono ?_); rintro e w' ⟨rfl, ⟨nd, rfl⟩⟩) | ((with_reducible refine gate_callee (f := 59) rfl ?_); refine gl_ (some 24) Tryz.func59 #[.int .i64 a0, .slice A1 l1.length c1, .int .i64 a2, .int .i64 a3] ?_; (with_reducible refine (impl_nearestOther.calls k a0 _ _ l1 a2 a3 t474 _ ?side1 ?side2 A9.out).mono ?_); (case side1 => repeat (first | exact (Kd.C_below HR1.out bw_) | (with_reducible refine Kd.C_alloc ?_ _) | (with_reducible refine Kd.C_drewN ?_ _) | (with_reducible refine Kd.C_drew ?_))); (case side2 => exact HC1.out); rintro e w11 ⟨rfl, hb⟩; refine ⟨_, rfl, ?_⟩; replace HB := A_ (below_step bw_ hb); (try clear hb)))
   go_ret2
   exact ⟨rt_, bw_⟩
  ·
   replace c8 := Bool.eq_false_iff.mpr c8
   subst c8
   rw [if_neg (show ¬ (false = true) by decide)] at H
   simp only [Option.some.injEq, Prod.mk.injEq] at H
   obtain ⟨rfl, rfl⟩ := H
   go_enter Tryz.func28, Tryz.ntmps28
   go_wp2_with (first | ((with_reducible refine gate_callee (f := 57) rfl ?_); refine gl_ (some 13) Tryz.func57 #[.int .i64 a0, .slice A1 l1.length c1, .int .i64 a2] ?_; (with_reducible refine (impl_areRunnersOf.calls a0 _ _ l1 a2 true _ ?side1 ?side2 A5.out).mono ?_); (case side1 => repeat (first | exact HR1.out | (with_reducible refine Kd.C_alloc ?_ _) | (with_reducible refine Kd.C_drewN ?_ _) | (with_reducible refine Kd.C_drew ?_))); (case side2 => exact HC1.out); rintro e w12 ⟨rfl, hb⟩; refine ⟨_, rfl, ?_⟩; replace HB := A_ (below_step bw_ hb); (try clear hb)) | (go_at_call 43; (with_reducible refine (impl_isRunTime.calls a3 false _ A7.out).mono ?_); rintro e w' ⟨rfl, ⟨nd, rfl⟩⟩))
   go_ret2
   exact ⟨rt_, bw_⟩
 ·
  replace c6 := Bool.eq_false_iff.mpr c6
  subst c6
  rw [if_neg (show ¬ (false = true) by decide)] at H
  simp only [Option.some.injEq, Prod.mk.injEq] at H
  obtain ⟨rfl, rfl⟩ := H
  go_enter Tryz.func28, Tryz.ntmps28
  go_wp2_with (first | ((with_reducible refine gate_callee (f := 57) rfl ?_); refine gl_ (some 13) Tryz.func57 #[.int .i64 a0, .slice A1 l1.length c1, .int .i64 a2] ?_; (with_reducible refine (impl_areRunnersOf.calls a0 _ _ l1 a2 false _ ?side1 ?side2 A5.out).mono ?_); (case side1 => repeat (first | exact HR1.out | (with_reducible refine Kd.C_alloc ?_ _) | (with_reducible refine Kd.C_drewN ?_ _) | (with_reducible refine Kd.C_drew ?_))); (case side2 => exact HC1.out); rintro e w13 ⟨rfl, hb⟩; refine ⟨_, rfl, ?_⟩; replace HB := A_ (below_step bw_ hb); (try clear hb)))
  go_ret2
  exact ⟨rt_, bw_⟩

end Go.Proofs.YtfkieckkmcibbaaGreatDoor.PFnRunnersRun
