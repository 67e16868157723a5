-- Laid by a program of this session's (wip/gen/printp.sh): the functions that the law reaches, each with its walk.
import Derived.Test.YtfkieckkmcibbaaGreatDoorPFnRunnersRunx0
import Derived.Test.YtfkieckkmcibbaaGreatDoorPFnRunnersRunx3
import Derived.Test.YtfkieckkmcibbaaGreatDoorPFnRunnersRunx4
namespace Go.Proofs.YtfkieckkmcibbaaGreatDoor.PFnRunnersRun
open Go.RowKit Go.Proofs.YtfkieckkmcibbaaGreatDoorW.PrintWords Go.Proofs.YtfkieckkmcibbaaGreatDoorW.PrintLast Go.Proofs.YtfkieckkmcibbaaGreatDoorW.PrintMore
attribute [local go_sem] max2_int min2_int max_two min_two max_three min_three max_four min_four   -- for this text's walks alone
set_option linter.unusedVariables false
set_option linter.unusedSimpArgs false

/-! ### spec_OrderOnTrack: function 7 -/
mutual
def spec_OrderOnTrack.j0 : Nat → List (S35) → Int → Bool → Option (List Int × Bool)
  | 0, _, _, _ => none
  | k + 1, x1, x2, x21 => if x21 = true then (some (([] : List Int), false)) else (spec_OrderOnTrack.l0 k x1 x2 ([] : List Int) x1 (x1.length : Int) 0)
def spec_OrderOnTrack.l0 : Nat → List (S35) → Int → List Int → List (S35) → Int → Int → Option (List Int × Bool)
  | 0, _, _, _, _, _, _ => none
  | k + 1, x1, x2, x8, x22, x23, x24 => if x24 < x23 then (if 0 ≤ x24 then (if x24 < (x22.length : Int) then (spec_OrderOnTrack.l1 k x1 x2 x8 x24 (x8.length : Int) x22 x23 x24 ((rd_T35 x22 x24).f0) ((rd_T35 x22 x24).f1)) else (none)) else (none)) else (some (x8, true))
def spec_OrderOnTrack.l1 : Nat → List (S35) → Int → List Int → Int → Int → List (S35) → Int → Int → Int → Int → Option (List Int × Bool)
  | 0, _, _, _, _, _, _, _, _, _, _ => none
  | k + 1, x1, x2, x8, x9, x11, x22, x23, x24, x220000, x220001 => if x11 > 0 then (if 0 ≤ (wrap64 (x11 - 1)) then (if (wrap64 (x11 - 1)) < (x8.length : Int) then (if 0 ≤ (rd x8 (wrap64 (x11 - 1))) then (if (rd x8 (wrap64 (x11 - 1))) < (x1.length : Int) then ((spec_trFar.f ((rd_T35 x1 (rd x8 (wrap64 (x11 - 1)))).f0) ((rd_T35 x1 (rd x8 (wrap64 (x11 - 1)))).f1) x2).bind fun t222 => ((spec_trFar.f x220000 x220001 x2).bind fun t223 => (if t222 < t223 then (spec_OrderOnTrack.l1 k x1 x2 x8 x9 (wrap64 (x11 - 1)) x22 x23 x24 x220000 x220001) else (if 0 ≤ x11 then (if x11 ≤ (x8.length : Int) then ((spec_l1Own.f (x8.take (x11 : Int).toNat)).bind fun t228 => (if t228.length < 17592186044416 then ((some (t228 ++ [x9] : List Int)).bind fun y231 => ((some (x8.drop (x11 : Int).toNat : List Int)).bind fun y234 => (if y231.length + y234.length < 17592186044416 then (spec_OrderOnTrack.l0 k x1 x2 (y231 ++ y234) x22 x23 (wrap64 (x24 + 1))) else (none)))) else (none))) else (none)) else (none))))) else (none)) else (none)) else (none)) else (none)) else (if 0 ≤ x11 then (if x11 ≤ (x8.length : Int) then ((spec_l1Own.f (x8.take (x11 : Int).toNat)).bind fun t245 => (if t245.length < 17592186044416 then ((some (t245 ++ [x9] : List Int)).bind fun y248 => ((some (x8.drop (x11 : Int).toNat : List Int)).bind fun y251 => (if y248.length + y251.length < 17592186044416 then (spec_OrderOnTrack.l0 k x1 x2 (y248 ++ y251) x22 x23 (wrap64 (x24 + 1))) else (none)))) else (none))) else (none)) else (none))
end
def spec_OrderOnTrack.f (k : Nat) (a0 : Int) (l1 : List (S35)) (a2 : Int) : Option (List Int × Bool) := (spec_trList.f k a0 l1).bind fun t216 => (if t216 = true then ((spec_trTime.f a2).bind fun t217 => (spec_OrderOnTrack.j0 k l1 a2 (!t217))) else (spec_OrderOnTrack.j0 k l1 a2 true))


def spec_OrderOnTrack.T8 : Bool × List (List Nat × List Nat) := (true, [([], []), ([0], [0]), ([1], [1]), ([2], [2]), ([2], [2]), ([2], [2]), ([5, 2], [2, 5]), ([4, 6, 2], [2, 4, 6]), ([7, 2], [2, 7]), ([3, 8, 2], [2, 3, 8]), ([9, 2], [2, 9]), ([2], [2]), ([10, 11, 2, 2], [2, 10, 11]), ([2], [2]), ([2], [2]), ([13, 14, 12, 2], [2, 13, 14]), ([12, 15, 2], [2, 12, 15]), ([2, 16], [2, 16])])
def spec_OrderOnTrack.B8 : List Nat := [0, 1, 3, 7, 7, 7, 39, 119, 247, 511, 1023, 7, 4095, 7, 7, 32767, 65535, 131071]
theorem spec_OrderOnTrack.tab8 : rtab .any (opsOf Tryz.f7 8) = spec_OrderOnTrack.T8 := by kernel_rfl
theorem spec_OrderOnTrack.bits8 : waitsOk spec_OrderOnTrack.T8.2 spec_OrderOnTrack.B8 = true := by kernel_rfl
set_option maxHeartbeats 8000000 in
set_option maxRecDepth 100000 in
theorem spec_OrderOnTrack.calls (k : Nat) (a0 : Int) (A1 : Option Addr) (c1 : Nat) (l1 : List (S35)) (a2 : Int) (r1 : List Int) (r2 : Bool) (w : World) (hr1 : Kd.C k35 w A1 l1.length l1) (hc1 : l1.length ≤ c1) (h : spec_OrderOnTrack.f k a0 l1 a2 = some (r1, r2)) :
  Calls Tryz.prog 7 #[.int .i64 a0, .slice A1 l1.length c1, .int .i64 a2] w fun e w' => ∃ v0_ : Value, e = .returned (.tuple #[v0_, .bool r2]) ∧ Kd.R (Kd.int .i64) 3 w' w.heap.size (fun _ => True) v0_ r1 ∧ Below w.heap.size w w' := by
 have hu35 := Tryz.underlying35
 have HR1 := A_ hr1
 have HC1 := A_ hc1
 clear hr1 hc1
 have HB := A_ (Below.refl w.heap.size w)
 have H := h
 unfold spec_OrderOnTrack.f at H
 clear h
 have HC4 := A_ H
 clear H
 go_enter Tryz.func7, Tryz.ntmps7
 go_upto_region 1 with (fail)
 go_cut [21] (fun v21 wc => ∃ (kq : Nat) (x21_3 : Bool), v21 = .bool x21_3 ∧ Aside0 (spec_OrderOnTrack.j0 kq l1 a2 x21_3 = some (r1, r2)) ∧ Aside0 (kq ≤ k) ∧ Aside0 (Below w.heap.size w wc))
 case first =>
  have H := HC4.out
  clear HC4
  replace H := ob_ H
  obtain ⟨t216, A5, H⟩ := H
  (try dsimp only at H)
  by_cases c6 : t216 = true
  ·
   subst c6
   rw [if_pos rfl] at H
   replace H := ob_ H
   obtain ⟨t217, A7, H⟩ := H
   (try dsimp only at H)
   have H' := A_ H
   clear H
   go_wp2_with (first | ((with_reducible refine gate_callee (f := 48) rfl ?_); refine gl_ (some 15) Tryz.func48 #[.int .i64 a0, .slice A1 l1.length c1] ?_; (with_reducible refine (spec_trList.calls k a0 _ _ l1 true _ ?side1 ?side2 A5.out).mono ?_); (case side1 => repeat (first | exact (Kd.C_below HR1.out HB.out) | (with_reducible refine Kd.C_alloc ?_ _) | (with_reducible refine Kd.C_drewN ?_ _) | (with_reducible refine Kd.C_drew ?_))); (case side2 => exact HC1.out); rintro e w8 ⟨rfl, hb⟩; refine ⟨_, rfl, ?_⟩; replace HB := A_ (below_step bw_ hb); (try clear hb)) | (go_at_call 49; (with_reducible refine (spec_trTime.calls a2 t217 _ A7.out).mono ?_); rintro e w' ⟨rfl, ⟨nd, rfl⟩⟩))
   go_meet
   case rel => exact ⟨_, (!t217), (rs_), H', ⟨by first | omega | exact Nat.le_refl _⟩, ⟨bw_⟩⟩
  ·
   replace c6 := Bool.eq_false_iff.mpr c6
   subst c6
   rw [if_neg (show ¬ (false = true) by decide)] at H
   have H' := A_ H
   clear H
   go_wp2_with (first | ((with_reducible refine gate_callee (f := 48) rfl ?_); refine gl_ (some 15) Tryz.func48 #[.int .i64 a0, .slice A1 l1.length c1] ?_; (with_reducible refine (spec_trList.calls k a0 _ _ l1 false _ ?side1 ?side2 A5.out).mono ?_); (case side1 => repeat (first | exact (Kd.C_below HR1.out HB.out) | (with_reducible refine Kd.C_alloc ?_ _) | (with_reducible refine Kd.C_drewN ?_ _) | (with_reducible refine Kd.C_drew ?_))); (case side2 => exact HC1.out); rintro e w9 ⟨rfl, hb⟩; refine ⟨_, rfl, ?_⟩; replace HB := A_ (below_step bw_ hb); (try clear hb)))
   go_meet
   case rel => exact ⟨_, (true), (rs_), H', ⟨by first | omega | exact Nat.le_refl _⟩, ⟨bw_⟩⟩
 case rest =>
  clear HC4
  try clear c1
  try clear p2
  try clear c4
  try clear c6
  try clear c7
  obtain ⟨kq, x21_3, rfl, HA, HJ3, HB⟩ := hcut
  cases kq with
    | zero => exact absurd HA.out (by simp [spec_OrderOnTrack.j0])
    | succ kj3 =>
   have H := HA.out
   clear HA
   simp only [spec_OrderOnTrack.j0] at H
   by_cases c10 : x21_3 = true
   ·
    subst c10
    rw [if_pos rfl] at H
    simp only [Option.some.injEq, Prod.mk.injEq] at H
    obtain ⟨rfl, rfl⟩ := H
    go_wp2
    go_ret2
    exact ⟨_, rt_, by first | exact Kd.R_nil _ _ _ _ _ | exact Kd.N_nil _ _ _ _ _ | exact Kd.V_nil _ _ _ _ _ | exact Kd.Q_nil _ _ _ _ _ | exact Kd.S_nil _ _ _ _ _, bw_⟩
   ·
    replace c10 := Bool.eq_false_iff.mpr c10
    subst c10
    rw [if_neg (show ¬ (false = true) by decide)] at H
    have H' := A_ H
    clear H
    go_wp2
    go_loopg [8, 24] kj3 (fun kq v8 v24 w' => ∃ (x8_2 : List Int) (x24_2 : Int), v24 = .int .i64 x24_2 ∧ Aside0 (spec_OrderOnTrack.l0 kq l1 a2 x8_2 l1 (l1.length : Int) x24_2 = some (r1, r2)) ∧ Aside0 (kq ≤ kj3) ∧ Aside0 (Kd.R (Kd.int .i64) 3 w' w.heap.size (fun _ => True) v8 x8_2) ∧ Aside0 (Below w.heap.size w w'))
    case atStart => exact ⟨(([] : List Int)), (0), (rs_), H', ⟨Nat.le_refl _⟩, ⟨by first | exact Kd.R_nil _ _ _ _ _ | exact Kd.N_nil _ _ _ _ _ | exact Kd.V_nil _ _ _ _ _ | exact Kd.Q_nil _ _ _ _ _ | exact Kd.S_nil _ _ _ _ _⟩, ⟨bw_⟩⟩
    case round =>
     clear H'
     try clear c1
     try clear p2
     try clear c4
     try clear c6
     try clear c7
     try clear c10
     try clear p2
     obtain ⟨x8_2, x24_2, rfl, HA, HK2, HO_8, HB⟩ := hrel
     cases gk with
          | zero => exact absurd HA.out (by simp [spec_OrderOnTrack.l0])
          | succ k2 =>
      have H := HA.out
      clear HA
      simp only [spec_OrderOnTrack.l0] at H
      by_cases c11 : x24_2 < (l1.length : Int)
      ·
       rw [if_pos c11] at H
       replace c11 := decide_eq_true c11
       by_cases c12 : 0 ≤ x24_2
       ·
        rw [if_pos c12] at H
        replace c12 := decide_eq_true c12
        by_cases c13 : x24_2 < (l1.length : Int)
        ·
         rw [if_pos c13] at H
         replace c13 := decide_eq_true c13
         have H' := A_ H
         clear H
         have p218 : 0 ≤ (x24_2 : Int) := of_decide_eq_true (by first | (with_reducible assumption) | assumption)
         have q218 : x24_2 < (l1.length : Int) := of_decide_eq_true (by first | (with_reducible assumption) | assumption)
         obtain ⟨ad218, e218, hx218_0, hx218_1⟩ := at_T35 HR1.out x24_2 p218 q218
         cases e218
         replace hx218_0 := (HB.out.cell (World.block_lt_of_cell? w _ hx218_0)).trans hx218_0
         replace hx218_1 := (HB.out.cell (World.block_lt_of_cell? w _ hx218_1)).trans hx218_1
         replace p218 := eq_true p218
         replace q218 := eq_true q218
         go_wp2_with (first | ((with_reducible refine gate_dst (N := 10) rfl ?_); refine be_ 10 #[.int .i64 0, .int .i64 0] 35 ?_; intro gb219 hg w14 hbox hb; have BK219 := A_ hbox; have GW219 := A_ (bz_ (w := w) hg); have GE219 := A_ (bz_ (w := w) hg); replace HB := A_ (below_step bw_ hb); replace HO_8 := A_ (Kd.R_below (by (with_reducible repeat (first | apply Kd.R_alloc | apply Kd.R_drewN | apply Kd.R_drew)); exact HO_8.out) hb); clear hb hbox hg; have hcz15_0 := hz_ BK219.out 0 (.int .i64 0); have hcz15_1 := hz_ BK219.out 1 (.int .i64 0); have hfz15_0 := blk_frozen BK219.out 0; have hfz15_1 := blk_frozen BK219.out 1; obtain ⟨Ao16, co16, eo16⟩ := Kd.R_slice HO_8.out; subst eo16))
         go_loopg [11] k2 (fun kq v11 w' => ∃ (x11_3 : Int), v11 = .int .i64 x11_3 ∧ Aside0 (spec_OrderOnTrack.l1 kq l1 a2 x8_2 x24_2 x11_3 l1 (l1.length : Int) x24_2 ((rd_T35 l1 x24_2).f0) ((rd_T35 l1 x24_2).f1) = some (r1, r2)) ∧ Aside0 (kq ≤ k2) ∧ Aside0 (Kd.R (Kd.int .i64) 3 w' w.heap.size (fun _ => True) (.slice Ao16 x8_2.length co16) x8_2) ∧ Aside0 (w'.heap[gb219]? = some (.cells #[.int .i64 ((rd_T35 l1 x24_2).f0), .int .i64 ((rd_T35 l1 x24_2).f1)] 35 (0, 0))) ∧ Aside0 (Below w.heap.size w w'))
         case atStart => exact ⟨((x8_2.length : Int)), (rs_), H', ⟨Nat.le_refl _⟩, ⟨by (with_reducible repeat (first | apply Kd.R_alloc | apply Kd.R_drewN | apply Kd.R_drew)); exact Kd.R_mono (Kd.R_far (p := ⟨gb219, 1, none⟩) (Kd.R_far (p := ⟨gb219, 0, none⟩) (Kd.R_types HO_8.out BK219.out (by decide)) (fun _ hk => hk.2) (.int .i64 ((rd_T35 l1 x24_2).f0))) (fun _ hk => hk.2) (.int .i64 ((rd_T35 l1 x24_2).f1))) (fun _ hk => trivial)⟩, ⟨by (with_reducible repeat (first | refine blk_drewN ?_ _ | refine blk_drew ?_ | refine blk_alloc ?_ _)); refine blk_put (cs := #[.int .i64 ((rd_T35 l1 x24_2).f0), .int .i64 0]) ?_ 1 _ rfl; (with_reducible repeat (first | refine blk_drewN ?_ _ | refine blk_drew ?_ | refine blk_alloc ?_ _)); refine blk_put (cs := #[.int .i64 0, .int .i64 0]) ?_ 0 _ rfl; (with_reducible repeat (first | refine blk_drewN ?_ _ | refine blk_drew ?_ | refine blk_alloc ?_ _)); exact BK219.out⟩, ⟨bw_⟩⟩
         case round =>
          clear H'
          try clear c1
          try clear p2
          try clear q2
          try clear hx2
          try clear c4
          try clear c6
          try clear c7
          try clear c10
          try clear c11
          try clear c12
          try clear c13
          try clear hcz15_0
          try clear hcz15_1
          try clear hfz15_0
          try clear hfz15_1
          try clear hx218_0
          try clear hx218_1
          try clear p2
          try clear p218
          try clear q218
          obtain ⟨x11_3, rfl, HA, HK3, HO_8, BK219, HB⟩ := hrel
          cases gk with
                    | zero => exact absurd HA.out (by simp [spec_OrderOnTrack.l1])
                    | succ k3 =>
           have H := HA.out
           clear HA
           simp only [spec_OrderOnTrack.l1] at H
           by_cases c17 : x11_3 > 0
           ·
            rw [if_pos c17] at H
            replace c17 := decide_eq_true (gt_iff_lt.mp c17)
            obtain ⟨ji18, hji18⟩ : ∃ j_ : Int, (wrap64 (x11_3 - 1)) = j_ := ⟨_, rfl⟩
            replace H : (if 0 ≤ (ji18) then (if (ji18) < (x8_2.length : Int) then (if 0 ≤ (rd x8_2 (ji18)) then (if (rd x8_2 (ji18)) < (l1.length : Int) then ((spec_trFar.f ((rd_T35 l1 (rd x8_2 (ji18))).f0) ((rd_T35 l1 (rd x8_2 (ji18))).f1) a2).bind fun t222 => ((spec_trFar.f ((rd_T35 l1 x24_2).f0) ((rd_T35 l1 x24_2).f1) a2).bind fun t223 => (if t222 < t223 then (spec_OrderOnTrack.l1 k3 l1 a2 x8_2 x24_2 ji18 l1 (l1.length : Int) x24_2 ((rd_T35 l1 x24_2).f0) ((rd_T35 l1 x24_2).f1)) else (if 0 ≤ x11_3 then (if x11_3 ≤ (x8_2.length : Int) then ((spec_l1Own.f (x8_2.take (x11_3 : Int).toNat)).bind fun t228 => (if t228.length < 17592186044416 then ((some (t228 ++ [x24_2] : List Int)).bind fun y231 => ((some (x8_2.drop (x11_3 : Int).toNat : List Int)).bind fun y234 => (if y231.length + y234.length < 17592186044416 then (spec_OrderOnTrack.l0 k3 l1 a2 (y231 ++ y234) l1 (l1.length : Int) (wrap64 (x24_2 + 1))) else (none)))) else (none))) else (none)) else (none))))) else (none)) else (none)) else (none)) else (none)) = some (r1, r2) := by first | (rw [hji18] at H; exact H) | (simp only [hji18] at H ⊢; exact H)
            have hji18w : (IntKind.i64.wrap (x11_3 - 1)) = ji18 := (i64_w _).trans hji18
            by_cases c19 : 0 ≤ (ji18)
            ·
             rw [if_pos c19] at H
             replace c19 := decide_eq_true c19
             by_cases c20 : (ji18) < (x8_2.length : Int)
             ·
              rw [if_pos c20] at H
              replace c20 := decide_eq_true c20
              by_cases c21 : 0 ≤ (rd x8_2 (ji18))
              ·
               rw [if_pos c21] at H
               replace c21 := decide_eq_true c21
               by_cases c22 : (rd x8_2 (ji18)) < (l1.length : Int)
               ·
                rw [if_pos c22] at H
                replace c22 := decide_eq_true c22
                replace H := ob_ H
                obtain ⟨t222, A23, H⟩ := H
                (try dsimp only at H)
                replace H := ob_ H
                obtain ⟨t223, A24, H⟩ := H
                (try dsimp only at H)
                by_cases c25 : t222 < t223
                ·
                 rw [if_pos c25] at H
                 replace c25 := decide_eq_true c25
                 have H' := A_ H
                 clear H
                 try go_wp2
                 replace HO_8 := A_ (Kd.R_drew HO_8.out)
                 replace BK219 := A_ (blk_drew BK219.out)
                 replace HB := A_ (below_drew1 HB.out)
                 have p220 : 0 ≤ ((ji18) : Int) := of_decide_eq_true (by first | (with_reducible assumption) | assumption)
                 have q220 : (ji18) < (x8_2.length : Int) := of_decide_eq_true (by first | (with_reducible assumption) | assumption)
                 obtain ⟨ad220, e220, hx220_0⟩ := Kd.at_int (Kd.R_reads' HO_8.out).2.2 (ji18) p220 q220
                 cases e220
                 replace p220 := eq_true p220
                 replace q220 := eq_true q220
                 have p221 : 0 ≤ ((rd x8_2 (ji18)) : Int) := of_decide_eq_true (by first | (with_reducible assumption) | assumption)
                 have q221 : (rd x8_2 (ji18)) < (l1.length : Int) := of_decide_eq_true (by first | (with_reducible assumption) | assumption)
                 obtain ⟨ad221, e221, hx221_0, hx221_1⟩ := at_T35 HR1.out (rd x8_2 (ji18)) p221 q221
                 have hw221_1 := hx221_1
                 have hw221_0 := hx221_0
                 obtain rfl : ad218 = ad221 := (by injection e221)
                 replace hx221_0 := (HB.out.cell (World.block_lt_of_cell? w _ hx221_0)).trans hx221_0
                 replace hx221_1 := (HB.out.cell (World.block_lt_of_cell? w _ hx221_1)).trans hx221_1
                 replace p221 := eq_true p221
                 replace q221 := eq_true q221
                 refine start_ (n := 18) (S := fun w' => w'.cell? ⟨gb219, 0, none⟩ = some (.int .i64 ((rd_T35 l1 x24_2).f0)) ∧ w'.cell? ⟨gb219, 1, none⟩ = some (.int .i64 ((rd_T35 l1 x24_2).f1)) ∧ w'.cell? (ad220.add ((ji18)).toNat) = some (.int .i64 (rd x8_2 (ji18))) ∧ w'.cell? (ad218.add (((rd x8_2 (ji18))).toNat * 2)) = some (.int .i64 ((rd_T35 l1 (rd x8_2 (ji18))).f0)) ∧ w'.cell? ⟨(ad218.add (((rd x8_2 (ji18))).toNat * 2)).block, (ad218.add (((rd x8_2 (ji18))).toNat * 2)).off + 1, none⟩ = some (.int .i64 ((rd_T35 l1 (rd x8_2 (ji18))).f1))) (ds := []) #[false, false, false, false, false, false, false, false, false, false, false, false, false, false, false, false, false, false] (by kernel_rfl) rfl rfl ⟨(blk_cell BK219.out 0).trans rfl, (blk_cell BK219.out 1).trans rfl, hx220_0, ((HB.out.cell (World.block_lt_of_cell? w _ hw221_0)).trans hw221_0), ((HB.out.cell (World.block_lt_of_cell? w _ hw221_1)).trans hw221_1)⟩ (fun hHeld => ?_); refine with_tabW spec_OrderOnTrack.tab8 spec_OrderOnTrack.bits8 (fun HT_ HW_ => ?_)
                 generalize wr.drew = w26 at HO_8 BK219 HB hx220_0 hx221_0 hx221_1 hHeld ⊢
                 refine pu_ 0 31 18 1 ?_
                 refine pu_ 1 32 18 3 ?_
                 refine pu_ 2 33 18 7 ?_
                 refine pu_ 3 34 18 15 ?_
                 refine pu_ 4 35 18 31 ?_
                 refine pu_ 5 36 18 63 ?_
                 refine pu_ 6 37 18 127 ?_
                 refine pu_ 7 38 18 255 ?_
                 refine pu_ 11 42 18 2303 ?_
                 refine pu_ 14 45 18 18687 ?_
                 refine tk_ 8 39 18 18943 hHeld ?_
                 refine pu_ 9 40 18 19455 ?_
                 refine tk_ 10 41 18 20479 hHeld ?_
                 refine tk_ 13 44 18 28671 hHeld ?_
                 refine one_ (i := 12) (N := some 43) (pm_ 18 32767) rfl rfl (one_of HT_.out (by kernel_rfl)) (by decide) (fun K hK => ?_)
                 refine goes_ Tryz.func50 (by kernel_rfl) rfl #[.agg #[.int .i64 ((rd_T35 l1 (rd x8_2 (ji18))).f0), .int .i64 ((rd_T35 l1 (rd x8_2 (ji18))).f1)], .int .i64 a2] (by rfl) rfl rfl (by (try simp only [List.map_toArray, List.map_cons, List.map_nil]); first | done | (simp only [hji18]; rfl) | rfl | (simp only [List.length_drop, List.length_take]; rfl)) ?_
                 with_reducible refine (spec_trFar.calls ((rd_T35 l1 (rd x8_2 (ji18))).f0) ((rd_T35 l1 (rd x8_2 (ji18))).f1) a2 t222 _ A23.out).mono ?_
                 rintro e w27 ⟨rfl, hb⟩
                 have HS2_ := (hb.cell (World.block_lt_of_cell? _ _ (hHeld.2.2.1))).trans (hHeld.2.2.1)
                 refine ⟨_, rfl, ?_⟩
                 replace HB := A_ (below_step bw_ hb)
                 replace BK219 := A_ (bb_ BK219.out hb)
                 replace HO_8 := A_ (Kd.R_below (by (with_reducible repeat (first | apply Kd.R_alloc | apply Kd.R_drewN | apply Kd.R_drew)); exact HO_8.out) hb)
                 (try clear hb)
                 (try clear hb2)
                 (try clear hk)
                 (try clear hi)
                 refine hK.out _ _ ⟨(blk_cell BK219.out 0).trans rfl, (blk_cell BK219.out 1).trans rfl, HS2_, ((HB.out.cell (World.block_lt_of_cell? w _ hw221_0)).trans hw221_0), ((HB.out.cell (World.block_lt_of_cell? w _ hw221_1)).trans hw221_1)⟩ (fun hHeld => ?_)
                 clear hK K
                 refine norm_ (a' := ?_) ?_ ?_
                 rotate_left
                 ·
                  show Act.put _ (some 43) _ = _
                  simp only [Act.put, List.setIfInBounds_toArray, List.set_cons_zero, List.set_cons_succ, i64_w, i32_w]
                  rfl
                 refine one_ (i := 15) (N := some 46) (pm_ 18 65535) rfl rfl (one_of HT_.out (by kernel_rfl)) (by decide) (fun K hK => ?_)
                 refine goes_ Tryz.func50 (by kernel_rfl) rfl #[.agg #[.int .i64 ((rd_T35 l1 x24_2).f0), .int .i64 ((rd_T35 l1 x24_2).f1)], .int .i64 a2] (by rfl) rfl rfl (by (try simp only [List.map_toArray, List.map_cons, List.map_nil]); first | done | rfl | (simp only [List.length_drop, List.length_take]; rfl)) ?_
                 with_reducible refine (spec_trFar.calls ((rd_T35 l1 x24_2).f0) ((rd_T35 l1 x24_2).f1) a2 t223 _ A24.out).mono ?_
                 rintro e w28 ⟨rfl, hb⟩
                 have HS2_ := (hb.cell (World.block_lt_of_cell? _ _ (hHeld.2.2.1))).trans (hHeld.2.2.1)
                 refine ⟨_, rfl, ?_⟩
                 replace HB := A_ (below_step bw_ hb)
                 replace BK219 := A_ (bb_ BK219.out hb)
                 replace HO_8 := A_ (Kd.R_below (by (with_reducible repeat (first | apply Kd.R_alloc | apply Kd.R_drewN | apply Kd.R_drew)); exact HO_8.out) hb)
                 (try clear hb)
                 (try clear hb2)
                 (try clear hk)
                 (try clear hi)
                 refine hK.out _ _ ⟨(blk_cell BK219.out 0).trans rfl, (blk_cell BK219.out 1).trans rfl, HS2_, ((HB.out.cell (World.block_lt_of_cell? w _ hw221_0)).trans hw221_0), ((HB.out.cell (World.block_lt_of_cell? w _ hw221_1)).trans hw221_1)⟩ (fun hHeld => ?_)
                 clear hK K
                 refine norm_ (a' := ?_) ?_ ?_
                 rotate_left
                 ·
                  show Act.put _ (some 46) _ = _
                  simp only [Act.put, List.setIfInBounds_toArray, List.set_cons_zero, List.set_cons_succ, i64_w, i32_w]
                  rfl
                 refine pu_ 16 47 18 131071 ?_
                 refine pu_ 17 48 18 262143 ?_
                 refine done_ (done_of HT_.out (by kernel_rfl)) ?_
                 try go_wp2
                 go_roundg k3
                 case measure => have := HJ3.out; have := HK2.out; have := HK3.out; omega
                 case rel => exact ⟨(ji18), (by first | rfl | (simp; done) | (simp only [← hji18] <;> (first | rfl | simp)) | (simp [*]; done)), H', ⟨by have := HJ3.out; have := HK2.out; have := HK3.out; omega⟩, ⟨by (with_reducible repeat (first | apply Kd.R_alloc | apply Kd.R_drewN | apply Kd.R_drew)); exact HO_8.out⟩, ⟨bk_⟩, ⟨bw_⟩⟩
                ·
                 rw [if_neg c25] at H
                 replace c25 := decide_eq_false c25
                 by_cases c29 : 0 ≤ x11_3
                 ·
                  rw [if_pos c29] at H
                  have c29b0 := eq_true c29
                  have c29b1 : decide (0 ≤ x11_3) = true := decide_eq_true c29
                  clear c29
                  by_cases c30 : x11_3 ≤ (x8_2.length : Int)
                  ·
                   rw [if_pos c30] at H
                   have c30b0 := eq_true c30
                   have c30b1 : decide (x11_3 ≤ (x8_2.length : Int)) = true := decide_eq_true c30
                   clear c30
                   obtain ⟨y224, hy224⟩ : ∃ y_ : List Int, y_ = (x8_2.take (x11_3 : Int).toNat) := ⟨_, rfl⟩
                   replace H : ((spec_l1Own.f y224).bind fun t228 => (if t228.length < 17592186044416 then ((some (t228 ++ [x24_2] : List Int)).bind fun y231 => ((some (x8_2.drop (x11_3 : Int).toNat : List Int)).bind fun y234 => (if y231.length + y234.length < 17592186044416 then (spec_OrderOnTrack.l0 k3 l1 a2 (y231 ++ y234) l1 (l1.length : Int) (wrap64 (x24_2 + 1))) else (none)))) else (none))) = some (r1, r2) := by first | (rw [hy224]; with_reducible exact H) | (have H2_ := (Option.bind_some _ _).symm.trans H; rw [hy224]; with_reducible exact H2_) | (have H2_ := (Option.bind_some _ _).symm.trans H; with_reducible exact H2_) | with_reducible exact H | (rw [hy224]; exact H) | exact H
                   have Ny224 := A_ hy224
                   clear hy224
                   replace H := ob_ H
                   obtain ⟨t228, A31, H⟩ := H
                   (try dsimp only at H)
                   by_cases c32 : t228.length < 17592186044416
                   ·
                    rw [if_pos c32] at H
                    have LMc32 := A_ c32
                    clear c32
                    obtain ⟨y231, hy231⟩ : ∃ y_ : List Int, y_ = (t228 ++ [x24_2]) := ⟨_, rfl⟩
                    replace H : ((some (x8_2.drop (x11_3 : Int).toNat : List Int)).bind fun y234 => (if y231.length + y234.length < 17592186044416 then (spec_OrderOnTrack.l0 k3 l1 a2 (y231 ++ y234) l1 (l1.length : Int) (wrap64 (x24_2 + 1))) else (none))) = some (r1, r2) := by first | (rw [hy231]; with_reducible exact H) | (have H2_ := (Option.bind_some _ _).symm.trans H; rw [hy231]; with_reducible exact H2_) | (have H2_ := (Option.bind_some _ _).symm.trans H; with_reducible exact H2_) | with_reducible exact H | (rw [hy231]; exact H) | exact H
                    have Ny231 := A_ hy231
                    clear hy231
                    have c33b0 := eq_true (of_decide_eq_true (by first | (with_reducible assumption) | assumption) : 0 ≤ x11_3)
                    have c34b0 := eq_true (of_decide_eq_true (by first | (with_reducible assumption) | assumption) : x11_3 ≤ (x8_2.length : Int))
                    obtain ⟨y234, hy234⟩ : ∃ y_ : List Int, y_ = (x8_2.drop (x11_3 : Int).toNat) := ⟨_, rfl⟩
                    replace H : (if y231.length + y234.length < 17592186044416 then (spec_OrderOnTrack.l0 k3 l1 a2 (y231 ++ y234) l1 (l1.length : Int) (wrap64 (x24_2 + 1))) else (none)) = some (r1, r2) := by first | (rw [hy234]; with_reducible exact H) | (have H2_ := (Option.bind_some _ _).symm.trans H; rw [hy234]; with_reducible exact H2_) | (have H2_ := (Option.bind_some _ _).symm.trans H; with_reducible exact H2_) | with_reducible exact H | (rw [hy234]; exact H) | exact H
                    have Ny234 := A_ hy234
                    clear hy234
                    by_cases c35 : y231.length + y234.length < 17592186044416
                    ·
                     rw [if_pos c35] at H
                     have LMc35 := A_ c35
                     clear c35
                     obtain ⟨y238, hy238⟩ : ∃ y_ : List Int, y_ = (y231 ++ y234) := ⟨_, rfl⟩
                     replace H : (spec_OrderOnTrack.l0 k3 l1 a2 y238 l1 (l1.length : Int) (wrap64 (x24_2 + 1))) = some (r1, r2) := by first | (rw [hy238]; with_reducible exact H) | (have H2_ := (Option.bind_some _ _).symm.trans H; rw [hy238]; with_reducible exact H2_) | (have H2_ := (Option.bind_some _ _).symm.trans H; with_reducible exact H2_) | with_reducible exact H | (rw [hy238]; exact H) | exact H
                     have Ny238 := A_ hy238
                     clear hy238
                     have H' := A_ H
                     clear H
                     try go_wp2
                     replace HO_8 := A_ (Kd.R_drew HO_8.out)
                     replace BK219 := A_ (blk_drew BK219.out)
                     replace HB := A_ (below_drew1 HB.out)
                     have p220 : 0 ≤ ((ji18) : Int) := of_decide_eq_true (by first | (with_reducible assumption) | assumption)
                     have q220 : (ji18) < (x8_2.length : Int) := of_decide_eq_true (by first | (with_reducible assumption) | assumption)
                     obtain ⟨ad220, e220, hx220_0⟩ := Kd.at_int (Kd.R_reads' HO_8.out).2.2 (ji18) p220 q220
                     cases e220
                     replace p220 := eq_true p220
                     replace q220 := eq_true q220
                     have p221 : 0 ≤ ((rd x8_2 (ji18)) : Int) := of_decide_eq_true (by first | (with_reducible assumption) | assumption)
                     have q221 : (rd x8_2 (ji18)) < (l1.length : Int) := of_decide_eq_true (by first | (with_reducible assumption) | assumption)
                     obtain ⟨ad221, e221, hx221_0, hx221_1⟩ := at_T35 HR1.out (rd x8_2 (ji18)) p221 q221
                     have hw221_1 := hx221_1
                     have hw221_0 := hx221_0
                     obtain rfl : ad218 = ad221 := (by injection e221)
                     replace hx221_0 := (HB.out.cell (World.block_lt_of_cell? w _ hx221_0)).trans hx221_0
                     replace hx221_1 := (HB.out.cell (World.block_lt_of_cell? w _ hx221_1)).trans hx221_1
                     replace p221 := eq_true p221
                     replace q221 := eq_true q221
                     refine start_ (n := 18) (S := fun w' => w'.cell? ⟨gb219, 0, none⟩ = some (.int .i64 ((rd_T35 l1 x24_2).f0)) ∧ w'.cell? ⟨gb219, 1, none⟩ = some (.int .i64 ((rd_T35 l1 x24_2).f1)) ∧ w'.cell? (ad220.add ((ji18)).toNat) = some (.int .i64 (rd x8_2 (ji18))) ∧ w'.cell? (ad218.add (((rd x8_2 (ji18))).toNat * 2)) = some (.int .i64 ((rd_T35 l1 (rd x8_2 (ji18))).f0)) ∧ w'.cell? ⟨(ad218.add (((rd x8_2 (ji18))).toNat * 2)).block, (ad218.add (((rd x8_2 (ji18))).toNat * 2)).off + 1, none⟩ = some (.int .i64 ((rd_T35 l1 (rd x8_2 (ji18))).f1))) (ds := []) #[false, false, false, false, false, false, false, false, false, false, false, false, false, false, false, false, false, false] (by kernel_rfl) rfl rfl ⟨(blk_cell BK219.out 0).trans rfl, (blk_cell BK219.out 1).trans rfl, hx220_0, ((HB.out.cell (World.block_lt_of_cell? w _ hw221_0)).trans hw221_0), ((HB.out.cell (World.block_lt_of_cell? w _ hw221_1)).trans hw221_1)⟩ (fun hHeld => ?_); refine with_tabW spec_OrderOnTrack.tab8 spec_OrderOnTrack.bits8 (fun HT_ HW_ => ?_)
                     generalize wr.drew = w36 at HO_8 BK219 HB hx220_0 hx221_0 hx221_1 hHeld ⊢
                     refine pu_ 0 31 18 1 ?_
                     refine pu_ 1 32 18 3 ?_
                     refine pu_ 2 33 18 7 ?_
                     refine pu_ 3 34 18 15 ?_
                     refine pu_ 4 35 18 31 ?_
                     refine pu_ 5 36 18 63 ?_
                     refine pu_ 6 37 18 127 ?_
                     refine pu_ 7 38 18 255 ?_
                     refine pu_ 11 42 18 2303 ?_
                     refine pu_ 14 45 18 18687 ?_
                     refine tk_ 8 39 18 18943 hHeld ?_
                     refine pu_ 9 40 18 19455 ?_
                     refine tk_ 10 41 18 20479 hHeld ?_
                     refine tk_ 13 44 18 28671 hHeld ?_
                     refine one_ (i := 12) (N := some 43) (pm_ 18 32767) rfl rfl (one_of HT_.out (by kernel_rfl)) (by decide) (fun K hK => ?_)
                     refine goes_ Tryz.func50 (by kernel_rfl) rfl #[.agg #[.int .i64 ((rd_T35 l1 (rd x8_2 (ji18))).f0), .int .i64 ((rd_T35 l1 (rd x8_2 (ji18))).f1)], .int .i64 a2] (by rfl) rfl rfl (by (try simp only [List.map_toArray, List.map_cons, List.map_nil]); first | done | (simp only [hji18]; rfl) | rfl | (simp only [List.length_drop, List.length_take]; rfl)) ?_
                     with_reducible refine (spec_trFar.calls ((rd_T35 l1 (rd x8_2 (ji18))).f0) ((rd_T35 l1 (rd x8_2 (ji18))).f1) a2 t222 _ A23.out).mono ?_
                     rintro e w37 ⟨rfl, hb⟩
                     have HS2_ := (hb.cell (World.block_lt_of_cell? _ _ (hHeld.2.2.1))).trans (hHeld.2.2.1)
                     refine ⟨_, rfl, ?_⟩
                     replace HB := A_ (below_step bw_ hb)
                     replace BK219 := A_ (bb_ BK219.out hb)
                     replace HO_8 := A_ (Kd.R_below (by (with_reducible repeat (first | apply Kd.R_alloc | apply Kd.R_drewN | apply Kd.R_drew)); exact HO_8.out) hb)
                     (try clear hb)
                     (try clear hb2)
                     (try clear hk)
                     (try clear hi)
                     refine hK.out _ _ ⟨(blk_cell BK219.out 0).trans rfl, (blk_cell BK219.out 1).trans rfl, HS2_, ((HB.out.cell (World.block_lt_of_cell? w _ hw221_0)).trans hw221_0), ((HB.out.cell (World.block_lt_of_cell? w _ hw221_1)).trans hw221_1)⟩ (fun hHeld => ?_)
                     clear hK K
                     refine norm_ (a' := ?_) ?_ ?_
                     rotate_left
                     ·
                      show Act.put _ (some 43) _ = _
                      simp only [Act.put, List.setIfInBounds_toArray, List.set_cons_zero, List.set_cons_succ, i64_w, i32_w]
                      rfl
                     refine one_ (i := 15) (N := some 46) (pm_ 18 65535) rfl rfl (one_of HT_.out (by kernel_rfl)) (by decide) (fun K hK => ?_)
                     refine goes_ Tryz.func50 (by kernel_rfl) rfl #[.agg #[.int .i64 ((rd_T35 l1 x24_2).f0), .int .i64 ((rd_T35 l1 x24_2).f1)], .int .i64 a2] (by rfl) rfl rfl (by (try simp only [List.map_toArray, List.map_cons, List.map_nil]); first | done | rfl | (simp only [List.length_drop, List.length_take]; rfl)) ?_
                     with_reducible refine (spec_trFar.calls ((rd_T35 l1 x24_2).f0) ((rd_T35 l1 x24_2).f1) a2 t223 _ A24.out).mono ?_
                     rintro e w38 ⟨rfl, hb⟩
                     have HS2_ := (hb.cell (World.block_lt_of_cell? _ _ (hHeld.2.2.1))).trans (hHeld.2.2.1)
                     refine ⟨_, rfl, ?_⟩
                     replace HB := A_ (below_step bw_ hb)
                     replace BK219 := A_ (bb_ BK219.out hb)
                     replace HO_8 := A_ (Kd.R_below (by (with_reducible repeat (first | apply Kd.R_alloc | apply Kd.R_drewN | apply Kd.R_drew)); exact HO_8.out) hb)
                     (try clear hb)
                     (try clear hb2)
                     (try clear hk)
                     (try clear hi)
                     refine hK.out _ _ ⟨(blk_cell BK219.out 0).trans rfl, (blk_cell BK219.out 1).trans rfl, HS2_, ((HB.out.cell (World.block_lt_of_cell? w _ hw221_0)).trans hw221_0), ((HB.out.cell (World.block_lt_of_cell? w _ hw221_1)).trans hw221_1)⟩ (fun hHeld => ?_)
                     clear hK K
                     refine norm_ (a' := ?_) ?_ ?_
                     rotate_left
                     ·
                      show Act.put _ (some 46) _ = _
                      simp only [Act.put, List.setIfInBounds_toArray, List.set_cons_zero, List.set_cons_succ, i64_w, i32_w]
                      rfl
                     refine pu_ 16 47 18 131071 ?_
                     refine pu_ 17 48 18 262143 ?_
                     refine done_ (done_of HT_.out (by kernel_rfl)) ?_
                     have q39 : (x11_3 : Int) ≤ ((x8_2.length : Int) : Int) := of_decide_eq_true (by first | (with_reducible assumption) | assumption)
                     obtain ⟨i039, hi039, _, hsz39, _⟩ := info_parts info3
                     have hroom39 : x8_2.length ≤ co16 := (Kd.R_reads' HO_8.out).2.1
                     have hC39 : Kd.C (Kd.int .i64) _ (some ad220) x8_2.length x8_2 := (Kd.R_reads' HO_8.out).2.2
                     have hcut39 := cut_to (P := Tryz.prog) 27 3 .i64 Tryz.underlying27 hi039 (some ad220) x8_2.length co16 x11_3 (of_decide_eq_true (by first | (with_reducible assumption) | assumption)) q39 hroom39
                     have hr39 := Kd.C_take (m := (x11_3 : Int).toNat) hC39 (by omega)
                     have hy39 : y224.length = (x11_3 : Int).toNat := (by rw [Ny224.out, List.length_take]; omega)
                     rw [← Ny224.out] at hr39
                     rw [← hy39] at hcut39
                     have HR227 := A_ hr39
                     have HC227 := A_ (show y224.length ≤ co16 from by omega)
                     clear hr39 hC39 hroom39 hi039 hsz39
                     have KY39 := A_ hy39
                     clear hy39
                     have KL39 := A_ (show (x11_3 : Int).toNat ≤ x8_2.length from by omega)
                     replace q39 := eq_true q39
                     try go_wp2_with (first | ((with_reducible refine gate_callee (f := 51) rfl ?_); refine gl_ (some 54) Tryz.func51 #[.slice (some ad220) y224.length co16] ?_; (with_reducible refine (spec_l1Own.calls _ _ y224 t228 _ ?side1 ?side2 A31.out).mono ?_); (case side1 => repeat (first | exact (by repeat (first | (with_reducible exact HR227.out) | (with_reducible refine Kd.C_alloc ?_ _) | (with_reducible refine Kd.C_drewN ?_ _) | (with_reducible refine Kd.C_drew ?_) | exact HR227.out)) | (with_reducible refine Kd.C_alloc ?_ _) | (with_reducible refine Kd.C_drewN ?_ _) | (with_reducible refine Kd.C_drew ?_))); (case side2 => exact HC227.out); rintro e w40 ⟨v229, rfl, ho0, hb⟩; refine ⟨_, rfl, ?_⟩; have HO230 := A_ (Kd.R_lower (Kd.R_new' ho0 (Kd.R_lt (by (with_reducible repeat (first | apply Kd.R_alloc | apply Kd.R_drewN | apply Kd.R_drew)); exact HO_8.out))) (below_size bw_)); replace HB := A_ (below_step bw_ hb); replace BK219 := A_ (bb_ BK219.out hb); replace HO_8 := A_ (Kd.R_elder' (by (with_reducible repeat (first | apply Kd.R_alloc | apply Kd.R_drewN | apply Kd.R_drew)); exact HO_8.out) (Kd.R_base ho0) hb); replace HR227 := A_ (Kd.C_below (by repeat (first | (with_reducible exact HR227.out) | (with_reducible refine Kd.C_alloc ?_ _) | (with_reducible refine Kd.C_drewN ?_ _) | (with_reducible refine Kd.C_drew ?_) | exact HR227.out)) hb); (try clear hb); (try clear ho0)) | ((with_reducible refine gate_builtin (b := .append) (xs := #[.tmp 54, .tmp 56]) rfl ?_); at_builtin; refine Kd.R_append (Kd.int .i64) (w0 := w) w.heap.size rfl (.tmp 54) (.tmp 56) 27 3 (.int .i64 0) 8 rfl Tryz.underlying27 info3 rfl (by decide) (by omega) v229 t228 x24_2 [.int .i64 x24_2] (fun k_ => some k_ ≠ (.slice (some ad220) x8_2.length co16 : Value).ownBlock) (fun _ => False) rfl rfl ?aP (fun _ hk => hk.elim) ?aF ?aO ?aB ?aS ?aL ?_; (case aP => exact rfl); (case aB => exact bw_); (case aF => exact (fun k_ hk => Kd.fresh' (Kd.R_lt (by (with_reducible repeat (first | apply Kd.R_alloc | apply Kd.R_drewN | apply Kd.R_drew)); exact HO_8.out)) k_ hk)); (case aO => exact (by (with_reducible repeat (first | apply Kd.R_alloc | apply Kd.R_drewN | apply Kd.R_drew)); exact Kd.R_mono HO230.out (fun _ hk => hk.2))); (case aS => exact (below_size bw_)); (case aL => have := LMc32.out; omega); intro v232 w41 ho hb hg hat; rw [← Ny231.out] at ho; have n0_ := A_ (Kd.R_after (ok := (fun _ => True)) (by (with_reducible repeat (first | apply Kd.R_alloc | apply Kd.R_drewN | apply Kd.R_drew)); exact HO_8.out) hg hat); have n1_ := A_ (blk_grown (g := gb219) (o := .cells #[.int .i64 ((rd_T35 l1 x24_2).f0), .int .i64 ((rd_T35 l1 x24_2).f1)] 35 (0, 0)) bk_ hg (Kd.R_ne HO230.out BK219.out (by decide))); have n2_ := A_ (hb); have n3_ := A_ ((show Kd.C (Kd.int .i64) w41 (some ad220) y224.length y224 from by rw [Ny224.out]; exact Kd.C_take (m := (x11_3 : Int).toNat) ((Kd.R_reads' (Kd.R_after (ok := (fun _ => True)) (by (with_reducible repeat (first | apply Kd.R_alloc | apply Kd.R_drewN | apply Kd.R_drew)); exact HO_8.out) hg hat)).2.2) KL39.out)); have n4_ := A_ (ho); clear HO_8; clear BK219; clear HB; clear HR227; clear HO230; have HO_8 := n0_; have BK219 := n1_; have HB := n2_; have HR227 := n3_; have HO233 := n4_; clear n0_ n1_ n2_ n3_ n4_; clear ho hb hg hat; have q42 : (x11_3 : Int) ≤ ((x8_2.length : Int) : Int) := of_decide_eq_true (by first | (with_reducible assumption) | assumption); obtain ⟨i042, hi042, _, hsz42, _⟩ := info_parts info3; have hroom42 : x8_2.length ≤ co16 := (Kd.R_reads' HO_8.out).2.1; have hC42 : Kd.C (Kd.int .i64) _ (some ad220) x8_2.length x8_2 := (Kd.R_reads' HO_8.out).2.2; have q042 : (0 : Int) ≤ (x11_3 : Int) := of_decide_eq_true (by first | (with_reducible assumption) | assumption); have hcut42 := cut_from (P := Tryz.prog) 27 3 .i64 Tryz.underlying27 hi042 1 hsz42 (some ad220) x8_2.length co16 x11_3 q042 q42; have hr42 := Kd.C_drop (m := (x11_3 : Int).toNat) (c := co16) hC42 (by omega) hroom42; obtain ⟨A42, hA42⟩ : ∃ A1, A1 = (if co16 = (x11_3 : Int).toNat then (some ad220) else ((some ad220) : Option Addr).map (·.add ((x11_3 : Int).toNat * 1))) := ⟨_, rfl⟩; obtain ⟨c42, hc42⟩ : ∃ c1, c1 = co16 - (x11_3 : Int).toNat := ⟨_, rfl⟩; have hy42 : y234.length = x8_2.length - (x11_3 : Int).toNat := (by rw [Ny234.out, List.length_drop] <;> omega); rw [show (x8_2).drop (x11_3 : Int).toNat = y234 from Ny234.out.symm] at hr42; replace hr42 : Kd.C (Kd.int .i64) _ A42 y234.length y234 := (by rw [hA42]; exact hr42); rw [← hy42, ← hA42, ← hc42] at hcut42; have HR237 := A_ hr42; have HC237 := A_ (show y234.length ≤ c42 from by rw [hy42, hc42]; exact Nat.sub_le_sub_right hroom42 _); clear hr42 hC42 hroom42 hi042 hsz42 hc42; have KY42 := A_ hy42; have KA42 := A_ hA42; clear hy42 hA42; have KL42 := A_ (show (x11_3 : Int).toNat ≤ x8_2.length from by omega); replace q42 := eq_true q42) | ((with_reducible refine gate_builtin (b := .append) (xs := #[.tmp 58, .tmp 61]) rfl ?_); at_builtin; refine Kd.R_append_rows (Kd.int .i64) (w0 := w) w.heap.size rfl (.tmp 58) (.tmp 61) 27 3 (.int .i64 0) 8 rfl Tryz.underlying27 info3 rfl (by decide) (by omega) v232 y231 y234 _ _ _ (fun k_ => some k_ ≠ (.slice (some ad220) x8_2.length co16 : Value).ownBlock) (fun _ => False) rfl rfl ?aO ?aR (fun _ _ h => h) (fun _ h => h.elim) ?aF ?aB ?aS ?aL ?_; (case aR => repeat (first | exact (by repeat (first | (with_reducible exact HR237.out) | (with_reducible refine Kd.C_alloc ?_ _) | (with_reducible refine Kd.C_drewN ?_ _) | (with_reducible refine Kd.C_drew ?_) | exact HR237.out)) | (with_reducible refine Kd.C_alloc ?_ _) | (with_reducible refine Kd.C_drewN ?_ _) | (with_reducible refine Kd.C_drew ?_))); (case aB => exact bw_); (case aF => exact (fun k_ hk => Kd.fresh' (Kd.R_lt (by (with_reducible repeat (first | apply Kd.R_alloc | apply Kd.R_drewN | apply Kd.R_drew)); exact HO_8.out)) k_ hk)); (case aO => exact (by (with_reducible repeat (first | apply Kd.R_alloc | apply Kd.R_drewN | apply Kd.R_drew)); exact HO233.out)); (case aS => exact (below_size bw_)); (case aL => have := LMc35.out; omega); intro v239 w43 ho hb hg hat; rw [← Ny238.out] at ho; have n0_ := A_ (Kd.R_after (ok := (fun _ => True)) (by (with_reducible repeat (first | apply Kd.R_alloc | apply Kd.R_drewN | apply Kd.R_drew)); exact HO_8.out) hg hat); have n1_ := A_ (blk_grown (g := gb219) (o := .cells #[.int .i64 ((rd_T35 l1 x24_2).f0), .int .i64 ((rd_T35 l1 x24_2).f1)] 35 (0, 0)) bk_ hg (Kd.R_ne HO233.out BK219.out (by decide))); have n2_ := A_ (hb); have n3_ := A_ ((show Kd.C (Kd.int .i64) w43 (some ad220) y224.length y224 from by rw [Ny224.out]; exact Kd.C_take (m := (x11_3 : Int).toNat) ((Kd.R_reads' (Kd.R_after (ok := (fun _ => True)) (by (with_reducible repeat (first | apply Kd.R_alloc | apply Kd.R_drewN | apply Kd.R_drew)); exact HO_8.out) hg hat)).2.2) KL39.out)); have n4_ := A_ ((show Kd.C (Kd.int .i64) w43 A42 y234.length y234 from by rw [Ny234.out, KA42.out]; exact Kd.C_drop (m := (x11_3 : Int).toNat) (c := co16) ((Kd.R_reads' (Kd.R_after (ok := (fun _ => True)) (by (with_reducible repeat (first | apply Kd.R_alloc | apply Kd.R_drewN | apply Kd.R_drew)); exact HO_8.out) hg hat)).2.2) KL42.out ((Kd.R_reads' (Kd.R_after (ok := (fun _ => True)) (by (with_reducible repeat (first | apply Kd.R_alloc | apply Kd.R_drewN | apply Kd.R_drew)); exact HO_8.out) hg hat)).2.1))); have n5_ := A_ (ho); clear HO_8; clear BK219; clear HB; clear HR227; clear HR237; clear HO233; have HO_8 := n0_; have BK219 := n1_; have HB := n2_; have HR227 := n3_; have HR237 := n4_; have HO240 := n5_; clear n0_ n1_ n2_ n3_ n4_ n5_; clear ho hb hg hat))
                     go_roundg k3
                     case measure => have := HJ3.out; have := HK2.out; have := HK3.out; omega
                     case rel => exact ⟨(y238), (wrap64 (x24_2 + 1)), (rs_), H', ⟨by have := HJ3.out; have := HK2.out; have := HK3.out; omega⟩, ⟨by (with_reducible repeat (first | apply Kd.R_alloc | apply Kd.R_drewN | apply Kd.R_drew)); exact Kd.R_mono HO240.out (fun _ hk => trivial)⟩, ⟨bw_⟩⟩
                    ·
                     rw [if_neg c35] at H
                     exact absurd H (by simp)
                   ·
                    rw [if_neg c32] at H
                    exact absurd H (by simp)
                  ·
                   rw [if_neg c30] at H
                   exact absurd H (by simp)
                 ·
                  rw [if_neg c29] at H
                  exact absurd H (by simp)
               ·
                rw [if_neg c22] at H
                exact absurd H (by simp)
              ·
               rw [if_neg c21] at H
               exact absurd H (by simp)
             ·
              rw [if_neg c20] at H
              exact absurd H (by simp)
            ·
             rw [if_neg c19] at H
             exact absurd H (by simp)
           ·
            rw [if_neg c17] at H
            replace c17 := decide_eq_false (mt gt_iff_lt.mpr c17)
            by_cases c44 : 0 ≤ x11_3
            ·
             rw [if_pos c44] at H
             have c44b0 := eq_true c44
             have c44b1 : decide (0 ≤ x11_3) = true := decide_eq_true c44
             clear c44
             by_cases c45 : x11_3 ≤ (x8_2.length : Int)
             ·
              rw [if_pos c45] at H
              have c45b0 := eq_true c45
              have c45b1 : decide (x11_3 ≤ (x8_2.length : Int)) = true := decide_eq_true c45
              clear c45
              obtain ⟨y241, hy241⟩ : ∃ y_ : List Int, y_ = (x8_2.take (x11_3 : Int).toNat) := ⟨_, rfl⟩
              replace H : ((spec_l1Own.f y241).bind fun t245 => (if t245.length < 17592186044416 then ((some (t245 ++ [x24_2] : List Int)).bind fun y248 => ((some (x8_2.drop (x11_3 : Int).toNat : List Int)).bind fun y251 => (if y248.length + y251.length < 17592186044416 then (spec_OrderOnTrack.l0 k3 l1 a2 (y248 ++ y251) l1 (l1.length : Int) (wrap64 (x24_2 + 1))) else (none)))) else (none))) = some (r1, r2) := by first | (rw [hy241]; with_reducible exact H) | (have H2_ := (Option.bind_some _ _).symm.trans H; rw [hy241]; with_reducible exact H2_) | (have H2_ := (Option.bind_some _ _).symm.trans H; with_reducible exact H2_) | with_reducible exact H | (rw [hy241]; exact H) | exact H
              have Ny241 := A_ hy241
              clear hy241
              replace H := ob_ H
              obtain ⟨t245, A46, H⟩ := H
              (try dsimp only at H)
              by_cases c47 : t245.length < 17592186044416
              ·
               rw [if_pos c47] at H
               have LMc47 := A_ c47
               clear c47
               obtain ⟨y248, hy248⟩ : ∃ y_ : List Int, y_ = (t245 ++ [x24_2]) := ⟨_, rfl⟩
               replace H : ((some (x8_2.drop (x11_3 : Int).toNat : List Int)).bind fun y251 => (if y248.length + y251.length < 17592186044416 then (spec_OrderOnTrack.l0 k3 l1 a2 (y248 ++ y251) l1 (l1.length : Int) (wrap64 (x24_2 + 1))) else (none))) = some (r1, r2) := by first | (rw [hy248]; with_reducible exact H) | (have H2_ := (Option.bind_some _ _).symm.trans H; rw [hy248]; with_reducible exact H2_) | (have H2_ := (Option.bind_some _ _).symm.trans H; with_reducible exact H2_) | with_reducible exact H | (rw [hy248]; exact H) | exact H
               have Ny248 := A_ hy248
               clear hy248
               have c48b0 := eq_true (of_decide_eq_true (by first | (with_reducible assumption) | assumption) : 0 ≤ x11_3)
               have c49b0 := eq_true (of_decide_eq_true (by first | (with_reducible assumption) | assumption) : x11_3 ≤ (x8_2.length : Int))
               obtain ⟨y251, hy251⟩ : ∃ y_ : List Int, y_ = (x8_2.drop (x11_3 : Int).toNat) := ⟨_, rfl⟩
               replace H : (if y248.length + y251.length < 17592186044416 then (spec_OrderOnTrack.l0 k3 l1 a2 (y248 ++ y251) l1 (l1.length : Int) (wrap64 (x24_2 + 1))) else (none)) = some (r1, r2) := by first | (rw [hy251]; with_reducible exact H) | (have H2_ := (Option.bind_some _ _).symm.trans H; rw [hy251]; with_reducible exact H2_) | (have H2_ := (Option.bind_some _ _).symm.trans H; with_reducible exact H2_) | with_reducible exact H | (rw [hy251]; exact H) | exact H
               have Ny251 := A_ hy251
               clear hy251
               by_cases c50 : y248.length + y251.length < 17592186044416
               ·
                rw [if_pos c50] at H
                have LMc50 := A_ c50
                clear c50
                obtain ⟨y255, hy255⟩ : ∃ y_ : List Int, y_ = (y248 ++ y251) := ⟨_, rfl⟩
                replace H : (spec_OrderOnTrack.l0 k3 l1 a2 y255 l1 (l1.length : Int) (wrap64 (x24_2 + 1))) = some (r1, r2) := by first | (rw [hy255]; with_reducible exact H) | (have H2_ := (Option.bind_some _ _).symm.trans H; rw [hy255]; with_reducible exact H2_) | (have H2_ := (Option.bind_some _ _).symm.trans H; with_reducible exact H2_) | with_reducible exact H | (rw [hy255]; exact H) | exact H
                have Ny255 := A_ hy255
                clear hy255
                have H' := A_ H
                clear H
                try go_wp2
                replace HO_8 := A_ (Kd.R_drew HO_8.out)
                replace BK219 := A_ (blk_drew BK219.out)
                replace HB := A_ (below_drew1 HB.out)
                refine start_ (n := 18) (S := fun w' => True) (ds := []) #[false, false, false, false, false, false, false, false, false, false, false, false, false, false, false, false, false, false] (by kernel_rfl) rfl rfl trivial (fun hHeld => ?_); refine with_tabW spec_OrderOnTrack.tab8 spec_OrderOnTrack.bits8 (fun HT_ HW_ => ?_)
                generalize wr.drew = w51 at HO_8 BK219 HB hHeld ⊢
                refine pu_ 0 31 18 1 ?_
                refine pu_ 1 32 18 3 ?_
                refine pu_ 2 33 18 7 ?_
                refine po_ 3 34 18 15 ?_
                refine po_ 4 35 18 31 ?_
                refine po_ 5 36 18 63 ?_
                refine po_ 6 37 18 127 ?_
                refine po_ 7 38 18 255 ?_
                refine po_ 8 39 18 511 ?_
                refine po_ 9 40 18 1023 ?_
                refine po_ 10 41 18 2047 ?_
                refine po_ 11 42 18 4095 ?_
                refine po_ 12 43 18 8191 ?_
                refine po_ 13 44 18 16383 ?_
                refine po_ 14 45 18 32767 ?_
                refine po_ 15 46 18 65535 ?_
                refine po_ 16 47 18 131071 ?_
                refine pu_ 17 48 18 262143 ?_
                refine done_ (done_of HT_.out (by kernel_rfl)) ?_
                have q52 : (x11_3 : Int) ≤ ((x8_2.length : Int) : Int) := of_decide_eq_true (by first | (with_reducible assumption) | assumption)
                obtain ⟨i052, hi052, _, hsz52, _⟩ := info_parts info3
                have hroom52 : x8_2.length ≤ co16 := (Kd.R_reads' HO_8.out).2.1
                have hC52 : Kd.C (Kd.int .i64) _ Ao16 x8_2.length x8_2 := (Kd.R_reads' HO_8.out).2.2
                have hcut52 := cut_to (P := Tryz.prog) 27 3 .i64 Tryz.underlying27 hi052 Ao16 x8_2.length co16 x11_3 (of_decide_eq_true (by first | (with_reducible assumption) | assumption)) q52 hroom52
                have hr52 := Kd.C_take (m := (x11_3 : Int).toNat) hC52 (by omega)
                have hy52 : y241.length = (x11_3 : Int).toNat := (by rw [Ny241.out, List.length_take]; omega)
                rw [← Ny241.out] at hr52
                rw [← hy52] at hcut52
                have HR244 := A_ hr52
                have HC244 := A_ (show y241.length ≤ co16 from by omega)
                clear hr52 hC52 hroom52 hi052 hsz52
                have KY52 := A_ hy52
                clear hy52
                have KL52 := A_ (show (x11_3 : Int).toNat ≤ x8_2.length from by omega)
                replace q52 := eq_true q52
                try go_wp2_with (first | ((with_reducible refine gate_callee (f := 51) rfl ?_); refine gl_ (some 54) Tryz.func51 #[.slice Ao16 y241.length co16] ?_; (with_reducible refine (spec_l1Own.calls _ _ y241 t245 _ ?side1 ?side2 A46.out).mono ?_); (case side1 => repeat (first | exact (by repeat (first | (with_reducible exact HR244.out) | (with_reducible refine Kd.C_alloc ?_ _) | (with_reducible refine Kd.C_drewN ?_ _) | (with_reducible refine Kd.C_drew ?_) | exact HR244.out)) | (with_reducible refine Kd.C_alloc ?_ _) | (with_reducible refine Kd.C_drewN ?_ _) | (with_reducible refine Kd.C_drew ?_))); (case side2 => exact HC244.out); rintro e w53 ⟨v246, rfl, ho0, hb⟩; refine ⟨_, rfl, ?_⟩; have HO247 := A_ (Kd.R_lower (Kd.R_new' ho0 (Kd.R_lt (by (with_reducible repeat (first | apply Kd.R_alloc | apply Kd.R_drewN | apply Kd.R_drew)); exact HO_8.out))) (below_size bw_)); replace HB := A_ (below_step bw_ hb); replace BK219 := A_ (bb_ BK219.out hb); replace HO_8 := A_ (Kd.R_elder' (by (with_reducible repeat (first | apply Kd.R_alloc | apply Kd.R_drewN | apply Kd.R_drew)); exact HO_8.out) (Kd.R_base ho0) hb); replace HR244 := A_ (Kd.C_below (by repeat (first | (with_reducible exact HR244.out) | (with_reducible refine Kd.C_alloc ?_ _) | (with_reducible refine Kd.C_drewN ?_ _) | (with_reducible refine Kd.C_drew ?_) | exact HR244.out)) hb); (try clear hb); (try clear ho0)) | ((with_reducible refine gate_builtin (b := .append) (xs := #[.tmp 54, .tmp 56]) rfl ?_); at_builtin; refine Kd.R_append (Kd.int .i64) (w0 := w) w.heap.size rfl (.tmp 54) (.tmp 56) 27 3 (.int .i64 0) 8 rfl Tryz.underlying27 info3 rfl (by decide) (by omega) v246 t245 x24_2 [.int .i64 x24_2] (fun k_ => some k_ ≠ (.slice Ao16 x8_2.length co16 : Value).ownBlock) (fun _ => False) rfl rfl ?aP (fun _ hk => hk.elim) ?aF ?aO ?aB ?aS ?aL ?_; (case aP => exact rfl); (case aB => exact bw_); (case aF => exact (fun k_ hk => Kd.fresh' (Kd.R_lt (by (with_reducible repeat (first | apply Kd.R_alloc | apply Kd.R_drewN | apply Kd.R_drew)); exact HO_8.out)) k_ hk)); (case aO => exact (by (with_reducible repeat (first | apply Kd.R_alloc | apply Kd.R_drewN | apply Kd.R_drew)); exact Kd.R_mono HO247.out (fun _ hk => hk.2))); (case aS => exact (below_size bw_)); (case aL => have := LMc47.out; omega); intro v249 w54 ho hb hg hat; rw [← Ny248.out] at ho; have n0_ := A_ (Kd.R_after (ok := (fun _ => True)) (by (with_reducible repeat (first | apply Kd.R_alloc | apply Kd.R_drewN | apply Kd.R_drew)); exact HO_8.out) hg hat); have n1_ := A_ (blk_grown (g := gb219) (o := .cells #[.int .i64 ((rd_T35 l1 x24_2).f0), .int .i64 ((rd_T35 l1 x24_2).f1)] 35 (0, 0)) bk_ hg (Kd.R_ne HO247.out BK219.out (by decide))); have n2_ := A_ (hb); have n3_ := A_ ((show Kd.C (Kd.int .i64) w54 Ao16 y241.length y241 from by rw [Ny241.out]; exact Kd.C_take (m := (x11_3 : Int).toNat) ((Kd.R_reads' (Kd.R_after (ok := (fun _ => True)) (by (with_reducible repeat (first | apply Kd.R_alloc | apply Kd.R_drewN | apply Kd.R_drew)); exact HO_8.out) hg hat)).2.2) KL52.out)); have n4_ := A_ (ho); clear HO_8; clear BK219; clear HB; clear HR244; clear HO247; have HO_8 := n0_; have BK219 := n1_; have HB := n2_; have HR244 := n3_; have HO250 := n4_; clear n0_ n1_ n2_ n3_ n4_; clear ho hb hg hat; have q55 : (x11_3 : Int) ≤ ((x8_2.length : Int) : Int) := of_decide_eq_true (by first | (with_reducible assumption) | assumption); obtain ⟨i055, hi055, _, hsz55, _⟩ := info_parts info3; have hroom55 : x8_2.length ≤ co16 := (Kd.R_reads' HO_8.out).2.1; have hC55 : Kd.C (Kd.int .i64) _ Ao16 x8_2.length x8_2 := (Kd.R_reads' HO_8.out).2.2; have q055 : (0 : Int) ≤ (x11_3 : Int) := of_decide_eq_true (by first | (with_reducible assumption) | assumption); have hcut55 := cut_from (P := Tryz.prog) 27 3 .i64 Tryz.underlying27 hi055 1 hsz55 Ao16 x8_2.length co16 x11_3 q055 q55; have hr55 := Kd.C_drop (m := (x11_3 : Int).toNat) (c := co16) hC55 (by omega) hroom55; obtain ⟨A55, hA55⟩ : ∃ A1, A1 = (if co16 = (x11_3 : Int).toNat then Ao16 else (Ao16 : Option Addr).map (·.add ((x11_3 : Int).toNat * 1))) := ⟨_, rfl⟩; obtain ⟨c55, hc55⟩ : ∃ c1, c1 = co16 - (x11_3 : Int).toNat := ⟨_, rfl⟩; have hy55 : y251.length = x8_2.length - (x11_3 : Int).toNat := (by rw [Ny251.out, List.length_drop] <;> omega); rw [show (x8_2).drop (x11_3 : Int).toNat = y251 from Ny251.out.symm] at hr55; replace hr55 : Kd.C (Kd.int .i64) _ A55 y251.length y251 := (by rw [hA55]; exact hr55); rw [← hy55, ← hA55, ← hc55] at hcut55; have HR254 := A_ hr55; have HC254 := A_ (show y251.length ≤ c55 from by rw [hy55, hc55]; exact Nat.sub_le_sub_right hroom55 _); clear hr55 hC55 hroom55 hi055 hsz55 hc55; have KY55 := A_ hy55; have KA55 := A_ hA55; clear hy55 hA55; have KL55 := A_ (show (x11_3 : Int).toNat ≤ x8_2.length from by omega); replace q55 := eq_true q55) | ((with_reducible refine gate_builtin (b := .append) (xs := #[.tmp 58, .tmp 61]) rfl ?_); at_builtin; refine Kd.R_append_rows (Kd.int .i64) (w0 := w) w.heap.size rfl (.tmp 58) (.tmp 61) 27 3 (.int .i64 0) 8 rfl Tryz.underlying27 info3 rfl (by decide) (by omega) v249 y248 y251 _ _ _ (fun k_ => some k_ ≠ (.slice Ao16 x8_2.length co16 : Value).ownBlock) (fun _ => False) rfl rfl ?aO ?aR (fun _ _ h => h) (fun _ h => h.elim) ?aF ?aB ?aS ?aL ?_; (case aR => repeat (first | exact (by repeat (first | (with_reducible exact HR254.out) | (with_reducible refine Kd.C_alloc ?_ _) | (with_reducible refine Kd.C_drewN ?_ _) | (with_reducible refine Kd.C_drew ?_) | exact HR254.out)) | (with_reducible refine Kd.C_alloc ?_ _) | (with_reducible refine Kd.C_drewN ?_ _) | (with_reducible refine Kd.C_drew ?_))); (case aB => exact bw_); (case aF => exact (fun k_ hk => Kd.fresh' (Kd.R_lt (by (with_reducible repeat (first | apply Kd.R_alloc | apply Kd.R_drewN | apply Kd.R_drew)); exact HO_8.out)) k_ hk)); (case aO => exact (by (with_reducible repeat (first | apply Kd.R_alloc | apply Kd.R_drewN | apply Kd.R_drew)); exact HO250.out)); (case aS => exact (below_size bw_)); (case aL => have := LMc50.out; omega); intro v256 w56 ho hb hg hat; rw [← Ny255.out] at ho; have n0_ := A_ (Kd.R_after (ok := (fun _ => True)) (by (with_reducible repeat (first | apply Kd.R_alloc | apply Kd.R_drewN | apply Kd.R_drew)); exact HO_8.out) hg hat); have n1_ := A_ (blk_grown (g := gb219) (o := .cells #[.int .i64 ((rd_T35 l1 x24_2).f0), .int .i64 ((rd_T35 l1 x24_2).f1)] 35 (0, 0)) bk_ hg (Kd.R_ne HO250.out BK219.out (by decide))); have n2_ := A_ (hb); have n3_ := A_ ((show Kd.C (Kd.int .i64) w56 Ao16 y241.length y241 from by rw [Ny241.out]; exact Kd.C_take (m := (x11_3 : Int).toNat) ((Kd.R_reads' (Kd.R_after (ok := (fun _ => True)) (by (with_reducible repeat (first | apply Kd.R_alloc | apply Kd.R_drewN | apply Kd.R_drew)); exact HO_8.out) hg hat)).2.2) KL52.out)); have n4_ := A_ ((show Kd.C (Kd.int .i64) w56 A55 y251.length y251 from by rw [Ny251.out, KA55.out]; exact Kd.C_drop (m := (x11_3 : Int).toNat) (c := co16) ((Kd.R_reads' (Kd.R_after (ok := (fun _ => True)) (by (with_reducible repeat (first | apply Kd.R_alloc | apply Kd.R_drewN | apply Kd.R_drew)); exact HO_8.out) hg hat)).2.2) KL55.out ((Kd.R_reads' (Kd.R_after (ok := (fun _ => True)) (by (with_reducible repeat (first | apply Kd.R_alloc | apply Kd.R_drewN | apply Kd.R_drew)); exact HO_8.out) hg hat)).2.1))); have n5_ := A_ (ho); clear HO_8; clear BK219; clear HB; clear HR244; clear HR254; clear HO250; have HO_8 := n0_; have BK219 := n1_; have HB := n2_; have HR244 := n3_; have HR254 := n4_; have HO257 := n5_; clear n0_ n1_ n2_ n3_ n4_ n5_; clear ho hb hg hat))
                go_roundg k3
                case measure => have := HJ3.out; have := HK2.out; have := HK3.out; omega
                case rel => exact ⟨(y255), (wrap64 (x24_2 + 1)), (rs_), H', ⟨by have := HJ3.out; have := HK2.out; have := HK3.out; omega⟩, ⟨by (with_reducible repeat (first | apply Kd.R_alloc | apply Kd.R_drewN | apply Kd.R_drew)); exact Kd.R_mono HO257.out (fun _ hk => trivial)⟩, ⟨bw_⟩⟩
               ·
                rw [if_neg c50] at H
                exact absurd H (by simp)
              ·
               rw [if_neg c47] at H
               exact absurd H (by simp)
             ·
              rw [if_neg c45] at H
              exact absurd H (by simp)
            ·
             rw [if_neg c44] at H
             exact absurd H (by simp)
        ·
         rw [if_neg c13] at H
         exact absurd H (by simp)
       ·
        rw [if_neg c12] at H
        exact absurd H (by simp)
      ·
       rw [if_neg c11] at H
       replace c11 := decide_eq_false c11
       simp only [Option.some.injEq, Prod.mk.injEq] at H
       obtain ⟨rfl, rfl⟩ := H
       go_wp2
       go_ret2
       exact ⟨_, rt_, by (with_reducible repeat (first | apply Kd.R_alloc | apply Kd.R_drewN | apply Kd.R_drew)); exact HO_8.out, bw_⟩

end Go.Proofs.YtfkieckkmcibbaaGreatDoor.PFnRunnersRun
