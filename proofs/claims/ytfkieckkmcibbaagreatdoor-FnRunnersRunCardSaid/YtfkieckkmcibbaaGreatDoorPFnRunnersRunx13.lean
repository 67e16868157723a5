-- Laid by a program of this session's (wip/gen/printp.sh): the functions that the law reaches, each with its walk.
import Derived.Test.YtfkieckkmcibbaaGreatDoorPFnRunnersRunx0
import Derived.Test.YtfkieckkmcibbaaGreatDoorPFnRunnersRunx2
import Derived.Test.YtfkieckkmcibbaaGreatDoorPFnRunnersRunx3
import Derived.Test.YtfkieckkmcibbaaGreatDoorPFnRunnersRunx12
namespace Go.Proofs.YtfkieckkmcibbaaGreatDoor.PFnRunnersRun
open Go.RowKit Go.Proofs.YtfkieckkmcibbaaGreatDoorW.PrintWords Go.Proofs.YtfkieckkmcibbaaGreatDoorW.PrintLast Go.Proofs.YtfkieckkmcibbaaGreatDoorW.PrintMore
attribute [local go_sem] max2_int min2_int max_two min_two max_three min_three max_four min_four   -- for this text's walks alone
set_option linter.unusedVariables false
set_option linter.unusedSimpArgs false

/-! ### spec_trText: function 73 -/
def spec_trText.l0 : Nat → ByteArray → List (S35) → Int → Int → Option (ByteArray)
  | 0, _, _, _, _ => none
  | k + 1, x3, x6, x7, x8 => if x8 < x7 then (if 0 ≤ x8 then (if x8 < (x6.length : Int) then (if x8 > 0 then (if x3.size + 1 ≤ 9223372036854775807 then ((spec_l1Num.f k ((rd_T35 x6 x8).f0)).bind fun t513 => (if t513.size + 1 ≤ 9223372036854775807 then ((spec_l1Num.f k ((rd_T35 x6 x8).f1)).bind fun t514 => (if (t513 ++ (⟨#[62]⟩ : ByteArray)).size + t514.size ≤ 9223372036854775807 then (if (x3 ++ (⟨#[44]⟩ : ByteArray)).size + ((t513 ++ (⟨#[62]⟩ : ByteArray)) ++ t514).size ≤ 9223372036854775807 then (spec_trText.l0 k ((x3 ++ (⟨#[44]⟩ : ByteArray)) ++ ((t513 ++ (⟨#[62]⟩ : ByteArray)) ++ t514)) x6 x7 (wrap64 (x8 + 1))) else (none)) else (none))) else (none))) else (none)) else ((spec_l1Num.f k ((rd_T35 x6 x8).f0)).bind fun t515 => (if t515.size + 1 ≤ 9223372036854775807 then ((spec_l1Num.f k ((rd_T35 x6 x8).f1)).bind fun t516 => (if (t515 ++ (⟨#[62]⟩ : ByteArray)).size + t516.size ≤ 9223372036854775807 then (if x3.size + ((t515 ++ (⟨#[62]⟩ : ByteArray)) ++ t516).size ≤ 9223372036854775807 then (spec_trText.l0 k (x3 ++ ((t515 ++ (⟨#[62]⟩ : ByteArray)) ++ t516)) x6 x7 (wrap64 (x8 + 1))) else (none)) else (none))) else (none)))) else (none)) else (none)) else (some x3)
def spec_trText.f (k : Nat) (l0 : List (S35)) : Option (ByteArray) := spec_trText.l0 k (⟨#[]⟩ : ByteArray) l0 (l0.length : Int) 0


def spec_trText.T7 : Bool × List (List Nat × List Nat) := (true, [([], []), ([], []), ([1], [1]), ([2], [2]), ([3], [3]), ([], []), ([5], [5]), ([6, 3], [6]), ([4, 7], [4, 7]), ([0, 8], [0, 8]), ([9, 7, 0, 1, 2, 3, 4, 5, 6, 7, 8, 9], [0, 9])])
def spec_trText.B7 : List Nat := [0, 0, 2, 6, 14, 0, 32, 110, 254, 511, 1023]
theorem spec_trText.tab7 : rtab .any (opsOf Tryz.f73 7) = spec_trText.T7 := by kernel_rfl
theorem spec_trText.bits7 : waitsOk spec_trText.T7.2 spec_trText.B7 = true := by kernel_rfl
set_option maxHeartbeats 8000000 in
set_option maxRecDepth 100000 in
theorem spec_trText.calls (k : Nat) (A0 : Option Addr) (c0 : Nat) (l0 : List (S35)) (r : ByteArray) (w : World) (hr0 : Kd.C k35 w A0 l0.length l0) (hc0 : l0.length ≤ c0) (h : spec_trText.f k l0 = some r) :
  Calls Tryz.prog 73 #[.slice A0 l0.length c0] w fun e w' => e = .returned (.string r) ∧ Below w.heap.size w w' := by
 have hu35 := Tryz.underlying35
 have HR0 := A_ hr0
 have HC0 := A_ hc0
 clear hr0 hc0
 have HB := A_ (Below.refl w.heap.size w)
 have H : (spec_trText.l0 k (⟨#[]⟩ : ByteArray) l0 (l0.length : Int) 0) = some r := h
 clear h
 have H' := A_ H
 clear H
 go_enter Tryz.func73, Tryz.ntmps73
 go_wp2
 go_loopg [3, 8] k (fun kq v3 v8 w' => ∃ (x3_1 : ByteArray) (x8_1 : Int), v3 = .string x3_1 ∧ v8 = .int .i64 x8_1 ∧ Aside0 (spec_trText.l0 kq x3_1 l0 (l0.length : Int) x8_1 = some r) ∧ Aside0 (kq ≤ k) ∧ Aside0 (Below w.heap.size w w'))
 case atStart => exact ⟨((⟨#[]⟩ : ByteArray)), (0), (rs_), (rs_), H', ⟨Nat.le_refl _⟩, ⟨bw_⟩⟩
 case round =>
  clear H'
  obtain ⟨x3_1, x8_1, rfl, rfl, HA, HK1, HB⟩ := hrel
  cases gk with
    | zero => exact absurd HA.out (by simp [spec_trText.l0])
    | succ k1 =>
   have H := HA.out
   clear HA
   simp only [spec_trText.l0] at H
   by_cases c2 : x8_1 < (l0.length : Int)
   ·
    rw [if_pos c2] at H
    replace c2 := decide_eq_true c2
    by_cases c3 : 0 ≤ x8_1
    ·
     rw [if_pos c3] at H
     replace c3 := decide_eq_true c3
     by_cases c4 : x8_1 < (l0.length : Int)
     ·
      rw [if_pos c4] at H
      replace c4 := decide_eq_true c4
      by_cases c5 : x8_1 > 0
      ·
       rw [if_pos c5] at H
       replace c5 := decide_eq_true (gt_iff_lt.mp c5)
       by_cases c6 : x3_1.size + 1 ≤ 9223372036854775807
       ·
        rw [if_pos c6] at H
        have c6b0 := eq_true c6
        have c6b1 : decide (x3_1.size + 1 ≤ 9223372036854775807) = true := decide_eq_true c6
        try have c6b2 : (9223372036854775807 < x3_1.size + 1) = False := eq_false (Nat.not_lt.2 c6)
        replace H := ob_ H
        obtain ⟨t513, A7, H⟩ := H
        (try dsimp only at H)
        by_cases c8 : t513.size + 1 ≤ 9223372036854775807
        ·
         rw [if_pos c8] at H
         have c8b0 := eq_true c8
         have c8b1 : decide (t513.size + 1 ≤ 9223372036854775807) = true := decide_eq_true c8
         try have c8b2 : (9223372036854775807 < t513.size + 1) = False := eq_false (Nat.not_lt.2 c8)
         replace H := ob_ H
         obtain ⟨t514, A9, H⟩ := H
         (try dsimp only at H)
         by_cases c10 : (t513 ++ (⟨#[62]⟩ : ByteArray)).size + t514.size ≤ 9223372036854775807
         ·
          rw [if_pos c10] at H
          have c10b0 := eq_true c10
          have c10b1 : decide ((t513 ++ (⟨#[62]⟩ : ByteArray)).size + t514.size ≤ 9223372036854775807) = true := decide_eq_true c10
          try have c10b2 : (9223372036854775807 < (t513 ++ (⟨#[62]⟩ : ByteArray)).size + t514.size) = False := eq_false (Nat.not_lt.2 c10)
          (try (have c10b3 := c10b2; simp only [ByteArray.size_append, show (⟨#[62]⟩ : ByteArray).size = 1 from rfl] at c10b3))
          by_cases c11 : (x3_1 ++ (⟨#[44]⟩ : ByteArray)).size + ((t513 ++ (⟨#[62]⟩ : ByteArray)) ++ t514).size ≤ 9223372036854775807
          ·
           rw [if_pos c11] at H
           have c11b0 := eq_true c11
           have c11b1 : decide ((x3_1 ++ (⟨#[44]⟩ : ByteArray)).size + ((t513 ++ (⟨#[62]⟩ : ByteArray)) ++ t514).size ≤ 9223372036854775807) = true := decide_eq_true c11
           try have c11b2 : (9223372036854775807 < (x3_1 ++ (⟨#[44]⟩ : ByteArray)).size + ((t513 ++ (⟨#[62]⟩ : ByteArray)) ++ t514).size) = False := eq_false (Nat.not_lt.2 c11)
           (try (have c11b3 := c11b2; simp only [ByteArray.size_append, show (⟨#[44]⟩ : ByteArray).size = 1 from rfl, show (⟨#[62]⟩ : ByteArray).size = 1 from rfl] at c11b3))
           have H' := A_ H
           clear H
           have p511 : 0 ≤ (x8_1 : Int) := of_decide_eq_true (by first | (with_reducible assumption) | assumption)
           have q511 : x8_1 < (l0.length : Int) := of_decide_eq_true (by first | (with_reducible assumption) | assumption)
           obtain ⟨ad511, e511, hx511_0, hx511_1⟩ := at_T35 HR0.out x8_1 p511 q511
           cases e511
           replace hx511_0 := (HB.out.cell (World.block_lt_of_cell? w _ hx511_0)).trans hx511_0
           replace hx511_1 := (HB.out.cell (World.block_lt_of_cell? w _ hx511_1)).trans hx511_1
           replace p511 := eq_true p511
           replace q511 := eq_true q511
           try go_wp2_with (first | ((with_reducible refine gate_dst (N := 5) rfl ?_); refine be_ 5 #[.int .i64 0, .int .i64 0] 35 ?_; intro gb512 hg w12 hbox hb; have BK512 := A_ hbox; have GW512 := A_ (bz_ (w := w) hg); have GE512 := A_ (bz_ (w := w) hg); replace HB := A_ (below_step bw_ hb); clear hb hbox hg; have hcz13_0 := hz_ BK512.out 0 (.int .i64 0); have hcz13_1 := hz_ BK512.out 1 (.int .i64 0); have hfz13_0 := blk_frozen BK512.out 0; have hfz13_1 := blk_frozen BK512.out 1))
           have n0_ : Aside0 (((w12.setCell ⟨gb512, 0, none⟩ (.int .i64 ((rd_T35 l0 x8_1).f0))).setCell ⟨gb512, 1, none⟩ (.int .i64 ((rd_T35 l0 x8_1).f1))).heap[gb512]? = some (.cells #[.int .i64 ((rd_T35 l0 x8_1).f0), .int .i64 ((rd_T35 l0 x8_1).f1)] 35 (0, 0))) := ⟨by (with_reducible repeat (first | refine blk_drewN ?_ _ | refine blk_drew ?_ | refine blk_alloc ?_ _)); refine blk_put (cs := #[.int .i64 ((rd_T35 l0 x8_1).f0), .int .i64 0]) ?_ 1 _ rfl; (with_reducible repeat (first | refine blk_drewN ?_ _ | refine blk_drew ?_ | refine blk_alloc ?_ _)); refine blk_put (cs := #[.int .i64 0, .int .i64 0]) ?_ 0 _ rfl; (with_reducible repeat (first | refine blk_drewN ?_ _ | refine blk_drew ?_ | refine blk_alloc ?_ _)); exact BK512.out⟩
           have n1_ : Aside0 (Below w.heap.size w ((w12.setCell ⟨gb512, 0, none⟩ (.int .i64 ((rd_T35 l0 x8_1).f0))).setCell ⟨gb512, 1, none⟩ (.int .i64 ((rd_T35 l0 x8_1).f1)))) := ⟨bw_⟩
           (try clear BK512)
           (try clear HB)
           generalize ((w12.setCell ⟨gb512, 0, none⟩ (.int .i64 ((rd_T35 l0 x8_1).f0))).setCell ⟨gb512, 1, none⟩ (.int .i64 ((rd_T35 l0 x8_1).f1))) = w14 at n0_ n1_ ⊢
           have BK512 := n0_
           have HB := n1_
           clear n0_ n1_
           replace BK512 := A_ (blk_drew BK512.out)
           replace HB := A_ (below_drew1 HB.out)
           refine start_ (n := 11) (S := fun w' => w'.cell? ⟨gb512, 0, none⟩ = some (.int .i64 ((rd_T35 l0 x8_1).f0)) ∧ w'.cell? ⟨gb512, 1, none⟩ = some (.int .i64 ((rd_T35 l0 x8_1).f1))) (ds := []) #[false, false, false, false, false, false, false, false, false, false, false] (by kernel_rfl) rfl rfl ⟨(blk_cell BK512.out 0).trans rfl, (blk_cell BK512.out 1).trans rfl⟩ (fun hHeld => ?_); refine with_tabW spec_trText.tab7 spec_trText.bits7 (fun HT_ HW_ => ?_)
           generalize w14.drew = w15 at BK512 HB hHeld ⊢
           refine pu_ 0 17 11 1 ?_
           refine pu_ 1 18 11 3 ?_
           refine pu_ 5 22 11 35 ?_
           refine tk_ 2 19 11 39 hHeld ?_
           refine tk_ 6 23 11 103 hHeld ?_
           refine one_ (i := 3) (N := some 20) (pm_ 11 111) rfl rfl (one_of HT_.out (by kernel_rfl)) (by decide) (fun K hK => ?_)
           refine goes_ Tryz.func99 (by kernel_rfl) rfl #[.int .i64 ((rd_T35 l0 x8_1).f0)] (by rfl) rfl rfl (by (try simp only [List.map_toArray, List.map_cons, List.map_nil]); first | done | rfl | (simp only [List.length_drop, List.length_take]; rfl)) ?_
           with_reducible refine (spec_l1Num.calls k1 ((rd_T35 l0 x8_1).f0) t513 _ A7.out).mono ?_
           rintro e w16 ⟨rfl, hb⟩
           refine ⟨_, rfl, ?_⟩
           replace HB := A_ (below_step bw_ hb)
           replace BK512 := A_ (bb_ BK512.out hb)
           (try clear hb)
           (try clear hb2)
           (try clear hk)
           (try clear hi)
           refine hK.out _ _ ⟨(blk_cell BK512.out 0).trans rfl, (blk_cell BK512.out 1).trans rfl⟩ (fun hHeld => ?_)
           clear hK K
           refine norm_ (a' := ?_) ?_ ?_
           rotate_left
           ·
            show Act.put _ (some 20) _ = _
            simp only [Act.put, List.setIfInBounds_toArray, List.set_cons_zero, List.set_cons_succ, i64_w, i32_w]
            rfl
           refine pu_ 4 21 11 127 ?_
           refine one_ (i := 7) (N := some 24) (pm_ 11 255) rfl rfl (one_of HT_.out (by kernel_rfl)) (by decide) (fun K hK => ?_)
           refine goes_ Tryz.func99 (by kernel_rfl) rfl #[.int .i64 ((rd_T35 l0 x8_1).f1)] (by rfl) rfl rfl (by (try simp only [List.map_toArray, List.map_cons, List.map_nil]); first | done | rfl | (simp only [List.length_drop, List.length_take]; rfl)) ?_
           with_reducible refine (spec_l1Num.calls k1 ((rd_T35 l0 x8_1).f1) t514 _ A9.out).mono ?_
           rintro e w17 ⟨rfl, hb⟩
           refine ⟨_, rfl, ?_⟩
           replace HB := A_ (below_step bw_ hb)
           replace BK512 := A_ (bb_ BK512.out hb)
           (try clear hb)
           (try clear hb2)
           (try clear hk)
           (try clear hi)
           refine hK.out _ _ ⟨(blk_cell BK512.out 0).trans rfl, (blk_cell BK512.out 1).trans rfl⟩ (fun hHeld => ?_)
           clear hK K
           refine norm_ (a' := ?_) ?_ ?_
           rotate_left
           ·
            show Act.put _ (some 24) _ = _
            simp only [Act.put, List.setIfInBounds_toArray, List.set_cons_zero, List.set_cons_succ, i64_w, i32_w]
            rfl
           refine pu_ 8 25 11 511 ?_
           refine pu_ 9 26 11 1023 ?_
           refine pu_ 10 3 11 2047 ?_
           refine done_ (done_of HT_.out (by kernel_rfl)) ?_
           try go_wp2
           go_roundg k1
           case measure => have := HK1.out; omega
           case rel => exact ⟨((x3_1 ++ (⟨#[44]⟩ : ByteArray)) ++ ((t513 ++ (⟨#[62]⟩ : ByteArray)) ++ t514)), (wrap64 (x8_1 + 1)), (rs_), (rs_), H', ⟨by have := HK1.out; omega⟩, ⟨bw_⟩⟩
          ·
           rw [if_neg c11] at H
           exact absurd H (by simp)
         ·
          rw [if_neg c10] at H
          exact absurd H (by simp)
        ·
         rw [if_neg c8] at H
         exact absurd H (by simp)
       ·
        rw [if_neg c6] at H
        exact absurd H (by simp)
      ·
       rw [if_neg c5] at H
       replace c5 := decide_eq_false (mt gt_iff_lt.mpr c5)
       replace H := ob_ H
       obtain ⟨t515, A18, H⟩ := H
       (try dsimp only at H)
       by_cases c19 : t515.size + 1 ≤ 9223372036854775807
       ·
        rw [if_pos c19] at H
        have c19b0 := eq_true c19
        have c19b1 : decide (t515.size + 1 ≤ 9223372036854775807) = true := decide_eq_true c19
        try have c19b2 : (9223372036854775807 < t515.size + 1) = False := eq_false (Nat.not_lt.2 c19)
        replace H := ob_ H
        obtain ⟨t516, A20, H⟩ := H
        (try dsimp only at H)
        by_cases c21 : (t515 ++ (⟨#[62]⟩ : ByteArray)).size + t516.size ≤ 9223372036854775807
        ·
         rw [if_pos c21] at H
         have c21b0 := eq_true c21
         have c21b1 : decide ((t515 ++ (⟨#[62]⟩ : ByteArray)).size + t516.size ≤ 9223372036854775807) = true := decide_eq_true c21
         try have c21b2 : (9223372036854775807 < (t515 ++ (⟨#[62]⟩ : ByteArray)).size + t516.size) = False := eq_false (Nat.not_lt.2 c21)
         (try (have c21b3 := c21b2; simp only [ByteArray.size_append, show (⟨#[62]⟩ : ByteArray).size = 1 from rfl] at c21b3))
         by_cases c22 : x3_1.size + ((t515 ++ (⟨#[62]⟩ : ByteArray)) ++ t516).size ≤ 9223372036854775807
         ·
          rw [if_pos c22] at H
          have c22b0 := eq_true c22
          have c22b1 : decide (x3_1.size + ((t515 ++ (⟨#[62]⟩ : ByteArray)) ++ t516).size ≤ 9223372036854775807) = true := decide_eq_true c22
          try have c22b2 : (9223372036854775807 < x3_1.size + ((t515 ++ (⟨#[62]⟩ : ByteArray)) ++ t516).size) = False := eq_false (Nat.not_lt.2 c22)
          (try (have c22b3 := c22b2; simp only [ByteArray.size_append, show (⟨#[62]⟩ : ByteArray).size = 1 from rfl] at c22b3))
          have H' := A_ H
          clear H
          have p511 : 0 ≤ (x8_1 : Int) := of_decide_eq_true (by first | (with_reducible assumption) | assumption)
          have q511 : x8_1 < (l0.length : Int) := of_decide_eq_true (by first | (with_reducible assumption) | assumption)
          obtain ⟨ad511, e511, hx511_0, hx511_1⟩ := at_T35 HR0.out x8_1 p511 q511
          cases e511
          replace hx511_0 := (HB.out.cell (World.block_lt_of_cell? w _ hx511_0)).trans hx511_0
          replace hx511_1 := (HB.out.cell (World.block_lt_of_cell? w _ hx511_1)).trans hx511_1
          replace p511 := eq_true p511
          replace q511 := eq_true q511
          try go_wp2_with (first | ((with_reducible refine gate_dst (N := 5) rfl ?_); refine be_ 5 #[.int .i64 0, .int .i64 0] 35 ?_; intro gb512 hg w23 hbox hb; have BK512 := A_ hbox; have GW512 := A_ (bz_ (w := w) hg); have GE512 := A_ (bz_ (w := w) hg); replace HB := A_ (below_step bw_ hb); clear hb hbox hg; have hcz24_0 := hz_ BK512.out 0 (.int .i64 0); have hcz24_1 := hz_ BK512.out 1 (.int .i64 0); have hfz24_0 := blk_frozen BK512.out 0; have hfz24_1 := blk_frozen BK512.out 1))
          have n0_ : Aside0 (((w23.setCell ⟨gb512, 0, none⟩ (.int .i64 ((rd_T35 l0 x8_1).f0))).setCell ⟨gb512, 1, none⟩ (.int .i64 ((rd_T35 l0 x8_1).f1))).heap[gb512]? = some (.cells #[.int .i64 ((rd_T35 l0 x8_1).f0), .int .i64 ((rd_T35 l0 x8_1).f1)] 35 (0, 0))) := ⟨by (with_reducible repeat (first | refine blk_drewN ?_ _ | refine blk_drew ?_ | refine blk_alloc ?_ _)); refine blk_put (cs := #[.int .i64 ((rd_T35 l0 x8_1).f0), .int .i64 0]) ?_ 1 _ rfl; (with_reducible repeat (first | refine blk_drewN ?_ _ | refine blk_drew ?_ | refine blk_alloc ?_ _)); refine blk_put (cs := #[.int .i64 0, .int .i64 0]) ?_ 0 _ rfl; (with_reducible repeat (first | refine blk_drewN ?_ _ | refine blk_drew ?_ | refine blk_alloc ?_ _)); exact BK512.out⟩
          have n1_ : Aside0 (Below w.heap.size w ((w23.setCell ⟨gb512, 0, none⟩ (.int .i64 ((rd_T35 l0 x8_1).f0))).setCell ⟨gb512, 1, none⟩ (.int .i64 ((rd_T35 l0 x8_1).f1)))) := ⟨bw_⟩
          (try clear BK512)
          (try clear HB)
          generalize ((w23.setCell ⟨gb512, 0, none⟩ (.int .i64 ((rd_T35 l0 x8_1).f0))).setCell ⟨gb512, 1, none⟩ (.int .i64 ((rd_T35 l0 x8_1).f1))) = w25 at n0_ n1_ ⊢
          have BK512 := n0_
          have HB := n1_
          clear n0_ n1_
          replace BK512 := A_ (blk_drew BK512.out)
          replace HB := A_ (below_drew1 HB.out)
          refine start_ (n := 11) (S := fun w' => w'.cell? ⟨gb512, 0, none⟩ = some (.int .i64 ((rd_T35 l0 x8_1).f0)) ∧ w'.cell? ⟨gb512, 1, none⟩ = some (.int .i64 ((rd_T35 l0 x8_1).f1))) (ds := []) #[false, false, false, false, false, false, false, false, false, false, false] (by kernel_rfl) rfl rfl ⟨(blk_cell BK512.out 0).trans rfl, (blk_cell BK512.out 1).trans rfl⟩ (fun hHeld => ?_); refine with_tabW spec_trText.tab7 spec_trText.bits7 (fun HT_ HW_ => ?_)
          generalize w25.drew = w26 at BK512 HB hHeld ⊢
          refine pu_ 0 17 11 1 ?_
          refine pu_ 1 18 11 3 ?_
          refine pu_ 5 22 11 35 ?_
          refine tk_ 2 19 11 39 hHeld ?_
          refine tk_ 6 23 11 103 hHeld ?_
          refine one_ (i := 3) (N := some 20) (pm_ 11 111) rfl rfl (one_of HT_.out (by kernel_rfl)) (by decide) (fun K hK => ?_)
          refine goes_ Tryz.func99 (by kernel_rfl) rfl #[.int .i64 ((rd_T35 l0 x8_1).f0)] (by rfl) rfl rfl (by (try simp only [List.map_toArray, List.map_cons, List.map_nil]); first | done | rfl | (simp only [List.length_drop, List.length_take]; rfl)) ?_
          with_reducible refine (spec_l1Num.calls k1 ((rd_T35 l0 x8_1).f0) t515 _ A18.out).mono ?_
          rintro e w27 ⟨rfl, hb⟩
          refine ⟨_, rfl, ?_⟩
          replace HB := A_ (below_step bw_ hb)
          replace BK512 := A_ (bb_ BK512.out hb)
          (try clear hb)
          (try clear hb2)
          (try clear hk)
          (try clear hi)
          refine hK.out _ _ ⟨(blk_cell BK512.out 0).trans rfl, (blk_cell BK512.out 1).trans rfl⟩ (fun hHeld => ?_)
          clear hK K
          refine norm_ (a' := ?_) ?_ ?_
          rotate_left
          ·
           show Act.put _ (some 20) _ = _
           simp only [Act.put, List.setIfInBounds_toArray, List.set_cons_zero, List.set_cons_succ, i64_w, i32_w]
           rfl
          refine pu_ 4 21 11 127 ?_
          refine one_ (i := 7) (N := some 24) (pm_ 11 255) rfl rfl (one_of HT_.out (by kernel_rfl)) (by decide) (fun K hK => ?_)
          refine goes_ Tryz.func99 (by kernel_rfl) rfl #[.int .i64 ((rd_T35 l0 x8_1).f1)] (by rfl) rfl rfl (by (try simp only [List.map_toArray, List.map_cons, List.map_nil]); first | done | rfl | (simp only [List.length_drop, List.length_take]; rfl)) ?_
          with_reducible refine (spec_l1Num.calls k1 ((rd_T35 l0 x8_1).f1) t516 _ A20.out).mono ?_
          rintro e w28 ⟨rfl, hb⟩
          refine ⟨_, rfl, ?_⟩
          replace HB := A_ (below_step bw_ hb)
          replace BK512 := A_ (bb_ BK512.out hb)
          (try clear hb)
          (try clear hb2)
          (try clear hk)
          (try clear hi)
          refine hK.out _ _ ⟨(blk_cell BK512.out 0).trans rfl, (blk_cell BK512.out 1).trans rfl⟩ (fun hHeld => ?_)
          clear hK K
          refine norm_ (a' := ?_) ?_ ?_
          rotate_left
          ·
           show Act.put _ (some 24) _ = _
           simp only [Act.put, List.setIfInBounds_toArray, List.set_cons_zero, List.set_cons_succ, i64_w, i32_w]
           rfl
          refine pu_ 8 25 11 511 ?_
          refine pu_ 9 26 11 1023 ?_
          refine pu_ 10 3 11 2047 ?_
          refine done_ (done_of HT_.out (by kernel_rfl)) ?_
          try go_wp2
          go_roundg k1
          case measure => have := HK1.out; omega
          case rel => exact ⟨(x3_1 ++ ((t515 ++ (⟨#[62]⟩ : ByteArray)) ++ t516)), (wrap64 (x8_1 + 1)), (rs_), (rs_), H', ⟨by have := HK1.out; omega⟩, ⟨bw_⟩⟩
         ·
          rw [if_neg c22] at H
          exact absurd H (by simp)
        ·
         rw [if_neg c21] at H
         exact absurd H (by simp)
       ·
        rw [if_neg c19] at H
        exact absurd H (by simp)
     ·
      rw [if_neg c4] at H
      exact absurd H (by simp)
    ·
     rw [if_neg c3] at H
     exact absurd H (by simp)
   ·
    rw [if_neg c2] at H
    replace c2 := decide_eq_false c2
    obtain rfl := Option.some.inj H
    go_wp2
    go_ret
    exact ⟨rt_, bw_⟩

/-! ### spec_RunnersText: function 32 -/
def spec_RunnersText.f (k : Nat) (l0 : List (S35)) : Option (ByteArray × Bool) := (spec_trList.f k 1000 l0).bind fun t517 => (if t517 = true then ((spec_trText.f k l0).bind fun t518 => (some (t518, true))) else (some ((⟨#[]⟩ : ByteArray), false)))

set_option maxHeartbeats 8000000 in
set_option maxRecDepth 100000 in
theorem spec_RunnersText.calls (k : Nat) (A0 : Option Addr) (c0 : Nat) (l0 : List (S35)) (r1 : ByteArray) (r2 : Bool) (w : World) (hr0 : Kd.C k35 w A0 l0.length l0) (hc0 : l0.length ≤ c0) (h : spec_RunnersText.f k l0 = some (r1, r2)) :
  Calls Tryz.prog 32 #[.slice A0 l0.length c0] w fun e w' => e = .returned (.tuple #[.string r1, .bool r2]) ∧ Below w.heap.size w w' := by
 have HR0 := A_ hr0
 have HC0 := A_ hc0
 clear hr0 hc0
 have HB := A_ (Below.refl w.heap.size w)
 have H := h
 unfold spec_RunnersText.f at H
 clear h
 replace H := ob_ H
 obtain ⟨t517, A2, H⟩ := H
 (try dsimp only at H)
 by_cases c3 : t517 = true
 ·
  subst c3
  rw [if_pos rfl] at H
  replace H := Option.bind_eq_some_iff.mp H
  obtain ⟨t518, A40, H⟩ := H
  replace H : (some (t518, true)) = some (r1, r2) := H
  have A4 := A_ A40
  clear A40
  simp only [Option.some.injEq, Prod.mk.injEq] at H
  obtain ⟨rfl, rfl⟩ := H
  go_enter Tryz.func32, Tryz.ntmps32
  go_wp2_with (first | ((with_reducible refine gate_callee (f := 48) rfl ?_); refine gl_ (some 5) Tryz.func48 #[.int .i64 1000, .slice A0 l0.length c0] ?_; (with_reducible refine (spec_trList.calls k 1000 _ _ l0 true _ ?side1 ?side2 A2.out).mono ?_); (case side1 => repeat (first | exact HR0.out | (with_reducible refine Kd.C_alloc ?_ _) | (with_reducible refine Kd.C_drewN ?_ _) | (with_reducible refine Kd.C_drew ?_))); (case side2 => exact HC0.out); rintro e w5 ⟨rfl, hb⟩; refine ⟨_, rfl, ?_⟩; replace HB := A_ (below_step bw_ hb); (try clear hb)) | ((with_reducible refine gate_callee (f := 73) rfl ?_); refine gl_ (some 8) Tryz.func73 #[.slice A0 l0.length c0] ?_; (with_reducible refine (spec_trText.calls k _ _ l0 t518 _ ?side1 ?side2 A4.out).mono ?_); (case side1 => repeat (first | exact (Kd.C_below HR0.out HB.out) | (with_reducible refine Kd.C_alloc ?_ _) | (with_reducible refine Kd.C_drewN ?_ _) | (with_reducible refine Kd.C_drew ?_))); (case side2 => exact HC0.out); rintro e w6 ⟨rfl, hb⟩; refine ⟨_, rfl, ?_⟩; replace HB := A_ (below_step bw_ hb); (try clear hb)))
  go_ret2
  exact ⟨rt_, bw_⟩
 ·
  replace c3 := Bool.eq_false_iff.mpr c3
  subst c3
  rw [if_neg (show ¬ (false = true) by decide)] at H
  simp only [Option.some.injEq, Prod.mk.injEq] at H
  obtain ⟨rfl, rfl⟩ := H
  go_enter Tryz.func32, Tryz.ntmps32
  go_wp2_with (first | ((with_reducible refine gate_callee (f := 48) rfl ?_); refine gl_ (some 5) Tryz.func48 #[.int .i64 1000, .slice A0 l0.length c0] ?_; (with_reducible refine (spec_trList.calls k 1000 _ _ l0 false _ ?side1 ?side2 A2.out).mono ?_); (case side1 => repeat (first | exact HR0.out | (with_reducible refine Kd.C_alloc ?_ _) | (with_reducible refine Kd.C_drewN ?_ _) | (with_reducible refine Kd.C_drew ?_))); (case side2 => exact HC0.out); rintro e w7 ⟨rfl, hb⟩; refine ⟨_, rfl, ?_⟩; replace HB := A_ (below_step bw_ hb); (try clear hb)))
  go_ret2
  exact ⟨rt_, bw_⟩

/-! ### spec_l1Cur_spoilt: function 75 -/
mutual
def spec_l1Cur_spoilt.l0 : Nat → ByteArray → ByteArray → Int → List Int → Int → Int → Option (ByteArray × Int × Int)
  | 0, _, _, _, _, _, _ => none
  | k + 1, x1, x2, x7, x1000, x1001, x1002 => if x7 > 0 then (spec_l1Cur_spoilt.j1 k x1 x2 x7 (decide ((x1.size : Int) > 0)) x1000 x1001 x1002) else (spec_l1Cur_spoilt.j1 k x1 x2 x7 false x1000 x1001 x1002)
def spec_l1Cur_spoilt.j1 : Nat → ByteArray → ByteArray → Int → Bool → List Int → Int → Int → Option (ByteArray × Int × Int)
  | 0, _, _, _, _, _, _, _ => none
  | k + 1, x1, x2, x7, x19, x1000, x1001, x1002 => if x19 = true then ((spec_l1Cur_pick.f x1000 x1001 x1002 (x1.size : Int)).bind fun bt522 => ((spec_l1Cur_pick.f x1000 bt522.2.1 bt522.2.2 (x2.size : Int)).bind fun bt525 => (if 0 ≤ bt525.1 then (if bt525.1 < (x2.size : Int) then ((some (([bt x2 bt525.1] : List Int) : List Int)).bind fun y528 => ((spec_l1Cur_pick.f x1000 bt525.2.1 bt525.2.2 3).bind fun bt531 => (if bt531.1 = 0 then (if 0 ≤ bt522.1 then (if bt522.1 ≤ (x1.size : Int) then (if (x1.extract 0 (bt522.1 : Int).toNat).size + (strOfNums y528).size ≤ 9223372036854775807 then (if ((x1.extract 0 (bt522.1 : Int).toNat) ++ (strOfNums y528)).size + (x1.extract (bt522.1 : Int).toNat x1.size).size ≤ 9223372036854775807 then (spec_l1Cur_spoilt.l0 k (((x1.extract 0 (bt522.1 : Int).toNat) ++ (strOfNums y528)) ++ (x1.extract (bt522.1 : Int).toNat x1.size)) x2 (wrap64 (x7 - 1)) x1000 bt531.2.1 bt531.2.2) else (none)) else (none)) else (none)) else (none)) else (if bt531.1 = 1 then (if 0 ≤ bt522.1 then (if bt522.1 ≤ (x1.size : Int) then (if (x1.extract 0 (bt522.1 : Int).toNat).size + (strOfNums y528).size ≤ 9223372036854775807 then (if 0 ≤ (wrap64 (bt522.1 + 1)) then (if (wrap64 (bt522.1 + 1)) ≤ (x1.size : Int) then (if ((x1.extract 0 (bt522.1 : Int).toNat) ++ (strOfNums y528)).size + (x1.extract ((wrap64 (bt522.1 + 1)) : Int).toNat x1.size).size ≤ 9223372036854775807 then (spec_l1Cur_spoilt.l0 k (((x1.extract 0 (bt522.1 : Int).toNat) ++ (strOfNums y528)) ++ (x1.extract ((wrap64 (bt522.1 + 1)) : Int).toNat x1.size)) x2 (wrap64 (x7 - 1)) x1000 bt531.2.1 bt531.2.2) else (none)) else (none)) else (none)) else (none)) else (none)) else (none)) else (if 0 ≤ bt522.1 then (if bt522.1 ≤ (x1.size : Int) then (if 0 ≤ (wrap64 (bt522.1 + 1)) then (if (wrap64 (bt522.1 + 1)) ≤ (x1.size : Int) then (if (x1.extract 0 (bt522.1 : Int).toNat).size + (x1.extract ((wrap64 (bt522.1 + 1)) : Int).toNat x1.size).size ≤ 9223372036854775807 then (spec_l1Cur_spoilt.l0 k ((x1.extract 0 (bt522.1 : Int).toNat) ++ (x1.extract ((wrap64 (bt522.1 + 1)) : Int).toNat x1.size)) x2 (wrap64 (x7 - 1)) x1000 bt531.2.1 bt531.2.2) else (none)) else (none)) else (none)) else (none)) else (none)))))) else (none)) else (none)))) else (some (x1, x1001, x1002))
end
def spec_l1Cur_spoilt.f (k : Nat) (s0_0 : List Int) (s0_1 : Int) (s0_2 : Int) (a1 : ByteArray) (a2 : ByteArray) : Option (ByteArray × Int × Int) := (spec_l1Cur_pick.f s0_0 s0_1 s0_2 2).bind fun bt519 => (spec_l1Cur_spoilt.l0 k a1 a2 (wrap64 (1 + bt519.1)) s0_0 bt519.2.1 bt519.2.2)


set_option maxHeartbeats 8000000 in
set_option maxRecDepth 100000 in
theorem spec_l1Cur_spoilt.calls (k : Nat) (g : Nat) (s0_0 : List Int) (s0_1 : Int) (s0_2 : Int) (a1 : ByteArray) (a2 : ByteArray) (r1 : ByteArray) (r2 : Int) (r3 : Int) (w0 w : World) (hI : IsS60 w0 w g s0_0 s0_1 s0_2) (hB : Below w0.heap.size w0 w) (h : spec_l1Cur_spoilt.f k s0_0 s0_1 s0_2 a1 a2 = some (r1, r2, r3)) :
  Calls Tryz.prog 75 #[.pointer (some ⟨g, 0, none⟩), .string a1, .string a2] w fun e w' => e = .returned (.string r1) ∧ IsS60 w0 w' g s0_0 r2 r3 ∧ Below w0.heap.size w0 w' ∧ KeepBut w w' g none := by
 have HI0 := A_ hI
 have HK := A_ (KeepBut.refl w g none)
 have HL := A_ hB.size
 clear hI
 have HW0 := A_ hB.size
 have HB := A_ hB
 clear hB
 have H := h
 unfold spec_l1Cur_spoilt.f at H
 clear h
 replace H := ob_ H
 obtain ⟨⟨t519, t520, t521⟩, A4, H⟩ := H
 (try dsimp only at H)
 have H' := A_ H
 clear H
 go_enter Tryz.func75, Tryz.ntmps75
 go_wp2_with (first | (go_at_call 56; (with_reducible refine (spec_l1Cur_pick.calls g s0_0 s0_1 s0_2 2 t519 t520 t521 w0 _ ?side1 ?side2 A4.out).mono ?_); (case side1 => exact is_); (case side2 => exact bx_); rintro e w5 ⟨rfl, hi, hb, hk⟩; replace HK := A_ (KeepBut.trans (ke_ (w := w)) hk (.inl rfl)); replace HB := A_ (hb); replace HI0 := A_ (hi); (try clear hb hk hi)))
 repeat (go_quiet (first | (go_at_call 56; (with_reducible refine (spec_l1Cur_pick.calls g s0_0 s0_1 s0_2 2 t519 t520 t521 w0 _ ?side1 ?side2 A4.out).mono ?_); (case side1 => exact is_); (case side2 => exact bx_); rintro e w5 ⟨rfl, hi, hb, hk⟩; replace HK := A_ (KeepBut.trans (ke_ (w := w)) hk (.inl rfl)); replace HB := A_ (hb); replace HI0 := A_ (hi); (try clear hb hk hi))); try go_wp2_with (first | (go_at_call 56; (with_reducible refine (spec_l1Cur_pick.calls g s0_0 s0_1 s0_2 2 t519 t520 t521 w0 _ ?side1 ?side2 A4.out).mono ?_); (case side1 => exact is_); (case side2 => exact bx_); rintro e w5 ⟨rfl, hi, hb, hk⟩; replace HK := A_ (KeepBut.trans (ke_ (w := w)) hk (.inl rfl)); replace HB := A_ (hb); replace HI0 := A_ (hi); (try clear hb hk hi))))
 go_loopg [1, 7] k (fun kq v1 v7 w' => ∃ (x1_1 : ByteArray) (x7_1 : Int) (x1001_1 : Int) (x1002_1 : Int), v1 = .string x1_1 ∧ v7 = .int .i64 x7_1 ∧ Aside0 (spec_l1Cur_spoilt.l0 kq x1_1 a2 x7_1 s0_0 x1001_1 x1002_1 = some (r1, r2, r3)) ∧ Aside0 (kq ≤ k) ∧ Aside0 (IsS60 w0 w' g s0_0 x1001_1 x1002_1) ∧ Aside0 (KeepBut w w' g none) ∧ Aside0 (Below w0.heap.size w0 w'))
 case atStart => exact ⟨(a1), (wrap64 (1 + t519)), (t520), (t521), (rs_), (rs_), H', ⟨Nat.le_refl _⟩, ⟨is_⟩, ⟨ke_⟩, ⟨bx_⟩⟩
 case round =>
  clear H'
  try clear p2
  obtain ⟨x1_1, x7_1, x1001_1, x1002_1, rfl, rfl, HA, HK1, HI0, HK, HB⟩ := hrel
  cases gk with
    | zero => exact absurd HA.out (by simp [spec_l1Cur_spoilt.l0])
    | succ k1 =>
   have H := HA.out
   clear HA
   simp only [spec_l1Cur_spoilt.l0] at H
   have HC6 := A_ H
   clear H
   go_upto_region 2 with (fail)
   repeat (go_quiet (fail); go_upto_region 2 with (fail))
   go_cut [19] (fun v19 wc => ∃ (kq : Nat) (x19_5 : Bool), v19 = .bool x19_5 ∧ Aside0 (spec_l1Cur_spoilt.j1 kq x1_1 a2 x7_1 x19_5 s0_0 x1001_1 x1002_1 = some (r1, r2, r3)) ∧ Aside0 (kq ≤ k1) ∧ Aside0 (IsS60 w0 wc g s0_0 x1001_1 x1002_1) ∧ Aside0 (KeepBut w wc g none) ∧ Aside0 (Below w0.heap.size w0 wc))
   case first =>
    have H := HC6.out
    clear HC6
    by_cases c7 : x7_1 > 0
    ·
     rw [if_pos c7] at H
     have c7b0 : decide (0 < x7_1) = true := decide_eq_true c7
     clear c7
     (first | rw [c7b0] | (simp only [i64_w, i32_w]; rw [c7b0]) | skip)
     have H' := A_ H
     clear H
     go_wp2
     repeat (go_quiet (fail); try go_wp2)
     go_meet
     case rel => exact ⟨_, (decide ((x1_1.size : Int) > 0)), (rs_), H', ⟨by have := HK1.out; first | omega | exact Nat.le_refl _⟩, ⟨is_⟩, ⟨ke_⟩, ⟨bx_⟩⟩
    ·
     rw [if_neg c7] at H
     have c7b0 : decide (0 < x7_1) = false := decide_eq_false c7
     clear c7
     (first | rw [c7b0] | (simp only [i64_w, i32_w]; rw [c7b0]) | skip)
     have H' := A_ H
     clear H
     go_wp2
     repeat (go_quiet (fail); try go_wp2)
     go_meet
     case rel => exact ⟨_, (false), (rs_), H', ⟨by have := HK1.out; first | omega | exact Nat.le_refl _⟩, ⟨is_⟩, ⟨ke_⟩, ⟨bx_⟩⟩
   case rest =>
    clear HC6
    try clear p2
    try clear p6
    try clear c7
    try clear c7b0
    try clear p2
    obtain ⟨kq, x19_5, rfl, HA, HJ5, HI0, HK, HB⟩ := hcut
    cases kq with
        | zero => exact absurd HA.out (by simp [spec_l1Cur_spoilt.j1])
        | succ kj5 =>
     have H := HA.out
     clear HA
     simp only [spec_l1Cur_spoilt.j1] at H
     by_cases c8 : x19_5 = true
     ·
      subst c8
      rw [if_pos rfl] at H
      replace H := ob_ H
      obtain ⟨⟨t522, t523, t524⟩, A9, H⟩ := H
      (try dsimp only at H)
      replace H := ob_ H
      obtain ⟨⟨t525, t526, t527⟩, A10, H⟩ := H
      (try dsimp only at H)
      by_cases c11 : 0 ≤ t525
      ·
       rw [if_pos c11] at H
       replace c11 := decide_eq_true c11
       by_cases c12 : t525 < (a2.size : Int)
       ·
        rw [if_pos c12] at H
        replace c12 := decide_eq_true c12
        obtain ⟨y528, hy528⟩ : ∃ y_ : List Int, y_ = (([bt a2 t525] : List Int)) := ⟨_, rfl⟩
        replace H : ((spec_l1Cur_pick.f s0_0 t526 t527 3).bind fun bt531 => (if bt531.1 = 0 then (if 0 ≤ t522 then (if t522 ≤ (x1_1.size : Int) then (if (x1_1.extract 0 (t522 : Int).toNat).size + (strOfNums y528).size ≤ 9223372036854775807 then (if ((x1_1.extract 0 (t522 : Int).toNat) ++ (strOfNums y528)).size + (x1_1.extract (t522 : Int).toNat x1_1.size).size ≤ 9223372036854775807 then (spec_l1Cur_spoilt.l0 kj5 (((x1_1.extract 0 (t522 : Int).toNat) ++ (strOfNums y528)) ++ (x1_1.extract (t522 : Int).toNat x1_1.size)) a2 (wrap64 (x7_1 - 1)) s0_0 bt531.2.1 bt531.2.2) else (none)) else (none)) else (none)) else (none)) else (if bt531.1 = 1 then (if 0 ≤ t522 then (if t522 ≤ (x1_1.size : Int) then (if (x1_1.extract 0 (t522 : Int).toNat).size + (strOfNums y528).size ≤ 9223372036854775807 then (if 0 ≤ (wrap64 (t522 + 1)) then (if (wrap64 (t522 + 1)) ≤ (x1_1.size : Int) then (if ((x1_1.extract 0 (t522 : Int).toNat) ++ (strOfNums y528)).size + (x1_1.extract ((wrap64 (t522 + 1)) : Int).toNat x1_1.size).size ≤ 9223372036854775807 then (spec_l1Cur_spoilt.l0 kj5 (((x1_1.extract 0 (t522 : Int).toNat) ++ (strOfNums y528)) ++ (x1_1.extract ((wrap64 (t522 + 1)) : Int).toNat x1_1.size)) a2 (wrap64 (x7_1 - 1)) s0_0 bt531.2.1 bt531.2.2) else (none)) else (none)) else (none)) else (none)) else (none)) else (none)) else (if 0 ≤ t522 then (if t522 ≤ (x1_1.size : Int) then (if 0 ≤ (wrap64 (t522 + 1)) then (if (wrap64 (t522 + 1)) ≤ (x1_1.size : Int) then (if (x1_1.extract 0 (t522 : Int).toNat).size + (x1_1.extract ((wrap64 (t522 + 1)) : Int).toNat x1_1.size).size ≤ 9223372036854775807 then (spec_l1Cur_spoilt.l0 kj5 ((x1_1.extract 0 (t522 : Int).toNat) ++ (x1_1.extract ((wrap64 (t522 + 1)) : Int).toNat x1_1.size)) a2 (wrap64 (x7_1 - 1)) s0_0 bt531.2.1 bt531.2.2) else (none)) else (none)) else (none)) else (none)) else (none))))) = some (r1, r2, r3) := by first | (rw [hy528]; with_reducible exact H) | (have H2_ := (Option.bind_some _ _).symm.trans H; rw [hy528]; with_reducible exact H2_) | (have H2_ := (Option.bind_some _ _).symm.trans H; with_reducible exact H2_) | with_reducible exact H | (rw [hy528]; exact H) | exact H
        have Ny528 := A_ hy528
        clear hy528
        replace H := ob_ H
        obtain ⟨⟨t531, t532, t533⟩, A14, H⟩ := H
        (try dsimp only at H)
        by_cases c15 : t531 = 0
        ·
         rw [if_pos c15] at H
         have c15b0 : (t531 == 0) = true := beq_iff_eq.mpr c15
         have c15b1 : (t531 != 0) = false := bne_eq_false_iff_eq.mpr c15
         clear c15
         by_cases c16 : 0 ≤ t522
         ·
          rw [if_pos c16] at H
          have c16b0 := eq_true c16
          have c16b1 : decide (0 ≤ t522) = true := decide_eq_true c16
          clear c16
          by_cases c17 : t522 ≤ (x1_1.size : Int)
          ·
           rw [if_pos c17] at H
           have c17b0 := eq_true c17
           have c17b1 : decide (t522 ≤ (x1_1.size : Int)) = true := decide_eq_true c17
           clear c17
           by_cases c18 : (x1_1.extract 0 (t522 : Int).toNat).size + (strOfNums y528).size ≤ 9223372036854775807
           ·
            rw [if_pos c18] at H
            have c18b0 := eq_true c18
            have c18b1 : decide ((x1_1.extract 0 (t522 : Int).toNat).size + (strOfNums y528).size ≤ 9223372036854775807) = true := decide_eq_true c18
            try have c18b2 : (9223372036854775807 < (x1_1.extract 0 (t522 : Int).toNat).size + (strOfNums y528).size) = False := eq_false (Nat.not_lt.2 c18)
            have c19b0 := eq_true (of_decide_eq_true (by first | (with_reducible assumption) | assumption) : 0 ≤ t522)
            have c20b0 := eq_true (of_decide_eq_true (by first | (with_reducible assumption) | assumption) : t522 ≤ (x1_1.size : Int))
            by_cases c21 : ((x1_1.extract 0 (t522 : Int).toNat) ++ (strOfNums y528)).size + (x1_1.extract (t522 : Int).toNat x1_1.size).size ≤ 9223372036854775807
            ·
             rw [if_pos c21] at H
             have c21b0 := eq_true c21
             have c21b1 : decide (((x1_1.extract 0 (t522 : Int).toNat) ++ (strOfNums y528)).size + (x1_1.extract (t522 : Int).toNat x1_1.size).size ≤ 9223372036854775807) = true := decide_eq_true c21
             try have c21b2 : (9223372036854775807 < ((x1_1.extract 0 (t522 : Int).toNat) ++ (strOfNums y528)).size + (x1_1.extract (t522 : Int).toNat x1_1.size).size) = False := eq_false (Nat.not_lt.2 c21)
             (try (have c21b3 := c21b2; simp only [ByteArray.size_append] at c21b3))
             have H' := A_ H
             clear H
             go_wp2_with (first | (go_at_call 56; (with_reducible refine (spec_l1Cur_pick.calls g s0_0 x1001_1 x1002_1 (x1_1.size : Int) t522 t523 t524 w0 _ ?side1 ?side2 A9.out).mono ?_); (case side1 => exact is_); (case side2 => exact bx_); rintro e w22 ⟨rfl, hi, hb, hk⟩; replace HK := A_ (KeepBut.trans (ke_ (w := w)) hk (.inl rfl)); replace HB := A_ (hb); replace HI0 := A_ (hi); (try clear hb hk hi)) | (go_at_call 56; (with_reducible refine (spec_l1Cur_pick.calls g s0_0 t523 t524 (a2.size : Int) t525 t526 t527 w0 _ ?side1 ?side2 A10.out).mono ?_); (case side1 => exact is_); (case side2 => exact bx_); rintro e w23 ⟨rfl, hi, hb, hk⟩; replace HK := A_ (KeepBut.trans (ke_ (w := w)) hk (.inl rfl)); replace HB := A_ (hb); replace HI0 := A_ (hi); (try clear hb hk hi); have p13 : 0 ≤ (t525 : Int) := of_decide_eq_true (by first | (with_reducible assumption) | assumption); have q13 : t525 < (a2.size : Int) := of_decide_eq_true (by first | (with_reducible assumption) | assumption); have hx13 := bt_at a2 t525; replace p13 := eq_true p13; replace q13 := eq_true q13) | ((with_reducible refine gate_dst (N := 32) rfl ?_); (try (refine gate_guard (by rfl) ?_; dsimp only)); refine Kd.R_lit (Kd.int .u8) _ 5 ?hg (N := 32) ?hd (xs := ([bt a2 t525] : List Int)) (inner := [.int .u8 (bt a2 t525)]) (ok := fun _ => True) (okp := fun _ => True) ?hr ?hp (fun _ hk => hk) trivial (Below.refl _ _) (Nat.le_refl _) (by simp) ?_; (case hd => rfl); (case hg => rfl); (case hr => first | (go_simp; done) | (go_simp; rfl)); (case hp => exact (Reps.one (show Kd.M (Kd.int .u8) _ _ _ (bt a2 t525) [.int .u8 (bt a2 t525)] from rfl) (Reps.none _ _))); intro v529 w24 ho25 hb hg_ hnew_; clear hg_ hnew_; (first | rw [← Ny528.out] at ho25 | (simp only [Int.reduceToNat] at ho25; rw [← Ny528.out] at ho25)); have HO530 := A_ (Kd.R_lower ho25 (keep_size (w := w) (g := g) (row := none) ke_)); replace HB := A_ (below_step bx_ hb); replace HK := A_ (KeepBut.trans (ke_ (w := w)) (KeepBut.of_below hb g none) (.inl rfl)); replace HI0 := A_ (IsS60.below is_ hb); clear hb ho25; have hcv26 := own_string (P := Tryz.prog) Tryz.underlying22 Tryz.underlying5 Tryz.underlying9 (Kd.own_of_R HO530.out)) | (go_at_call 56; (with_reducible refine (spec_l1Cur_pick.calls g s0_0 t526 t527 3 t531 t532 t533 w0 _ ?side1 ?side2 A14.out).mono ?_); (case side1 => exact is_); (case side2 => exact bx_); rintro e w27 ⟨rfl, hi, hb, hk⟩; replace HK := A_ (KeepBut.trans (ke_ (w := w)) hk (.inl rfl)); replace HO530 := A_ (Kd.R_mono (Kd.R_keep (IsS60.apart (show IsS60 w0 _ g s0_0 t526 t527 from is_) (by (with_reducible repeat (first | apply Kd.R_alloc | apply Kd.R_drewN | apply Kd.R_drew)); exact HO530.out) (by decide)) hk (fun _ h => h.2)) (fun _ h => h.1)); replace HB := A_ (hb); replace HI0 := A_ (hi); (try clear hb hk hi)))
             repeat (go_quiet (first | (go_at_call 56; (with_reducible refine (spec_l1Cur_pick.calls g s0_0 x1001_1 x1002_1 (x1_1.size : Int) t522 t523 t524 w0 _ ?side1 ?side2 A9.out).mono ?_); (case side1 => exact is_); (case side2 => exact bx_); rintro e w22 ⟨rfl, hi, hb, hk⟩; replace HK := A_ (KeepBut.trans (ke_ (w := w)) hk (.inl rfl)); replace HB := A_ (hb); replace HI0 := A_ (hi); (try clear hb hk hi)) | (go_at_call 56; (with_reducible refine (spec_l1Cur_pick.calls g s0_0 t523 t524 (a2.size : Int) t525 t526 t527 w0 _ ?side1 ?side2 A10.out).mono ?_); (case side1 => exact is_); (case side2 => exact bx_); rintro e w23 ⟨rfl, hi, hb, hk⟩; replace HK := A_ (KeepBut.trans (ke_ (w := w)) hk (.inl rfl)); replace HB := A_ (hb); replace HI0 := A_ (hi); (try clear hb hk hi); have p13 : 0 ≤ (t525 : Int) := of_decide_eq_true (by first | (with_reducible assumption) | assumption); have q13 : t525 < (a2.size : Int) := of_decide_eq_true (by first | (with_reducible assumption) | assumption); have hx13 := bt_at a2 t525; replace p13 := eq_true p13; replace q13 := eq_true q13) | ((with_reducible refine gate_dst (N := 32) rfl ?_); (try (refine gate_guard (by rfl) ?_; dsimp only)); refine Kd.R_lit (Kd.int .u8) _ 5 ?hg (N := 32) ?hd (xs := ([bt a2 t525] : List Int)) (inner := [.int .u8 (bt a2 t525)]) (ok := fun _ => True) (okp := fun _ => True) ?hr ?hp (fun _ hk => hk) trivial (Below.refl _ _) (Nat.le_refl _) (by simp) ?_; (case hd => rfl); (case hg => rfl); (case hr => first | (go_simp; done) | (go_simp; rfl)); (case hp => exact (Reps.one (show Kd.M (Kd.int .u8) _ _ _ (bt a2 t525) [.int .u8 (bt a2 t525)] from rfl) (Reps.none _ _))); intro v529 w24 ho25 hb hg_ hnew_; clear hg_ hnew_; (first | rw [← Ny528.out] at ho25 | (simp only [Int.reduceToNat] at ho25; rw [← Ny528.out] at ho25)); have HO530 := A_ (Kd.R_lower ho25 (keep_size (w := w) (g := g) (row := none) ke_)); replace HB := A_ (below_step bx_ hb); replace HK := A_ (KeepBut.trans (ke_ (w := w)) (KeepBut.of_below hb g none) (.inl rfl)); replace HI0 := A_ (IsS60.below is_ hb); clear hb ho25; have hcv26 := own_string (P := Tryz.prog) Tryz.underlying22 Tryz.underlying5 Tryz.underlying9 (Kd.own_of_R HO530.out)) | (go_at_call 56; (with_reducible refine (spec_l1Cur_pick.calls g s0_0 t526 t527 3 t531 t532 t533 w0 _ ?side1 ?side2 A14.out).mono ?_); (case side1 => exact is_); (case side2 => exact bx_); rintro e w27 ⟨rfl, hi, hb, hk⟩; replace HK := A_ (KeepBut.trans (ke_ (w := w)) hk (.inl rfl)); replace HO530 := A_ (Kd.R_mono (Kd.R_keep (IsS60.apart (show IsS60 w0 _ g s0_0 t526 t527 from is_) (by (with_reducible repeat (first | apply Kd.R_alloc | apply Kd.R_drewN | apply Kd.R_drew)); exact HO530.out) (by decide)) hk (fun _ h => h.2)) (fun _ h => h.1)); replace HB := A_ (hb); replace HI0 := A_ (hi); (try clear hb hk hi))); try go_wp2_with (first | (go_at_call 56; (with_reducible refine (spec_l1Cur_pick.calls g s0_0 x1001_1 x1002_1 (x1_1.size : Int) t522 t523 t524 w0 _ ?side1 ?side2 A9.out).mono ?_); (case side1 => exact is_); (case side2 => exact bx_); rintro e w22 ⟨rfl, hi, hb, hk⟩; replace HK := A_ (KeepBut.trans (ke_ (w := w)) hk (.inl rfl)); replace HB := A_ (hb); replace HI0 := A_ (hi); (try clear hb hk hi)) | (go_at_call 56; (with_reducible refine (spec_l1Cur_pick.calls g s0_0 t523 t524 (a2.size : Int) t525 t526 t527 w0 _ ?side1 ?side2 A10.out).mono ?_); (case side1 => exact is_); (case side2 => exact bx_); rintro e w23 ⟨rfl, hi, hb, hk⟩; replace HK := A_ (KeepBut.trans (ke_ (w := w)) hk (.inl rfl)); replace HB := A_ (hb); replace HI0 := A_ (hi); (try clear hb hk hi); have p13 : 0 ≤ (t525 : Int) := of_decide_eq_true (by first | (with_reducible assumption) | assumption); have q13 : t525 < (a2.size : Int) := of_decide_eq_true (by first | (with_reducible assumption) | assumption); have hx13 := bt_at a2 t525; replace p13 := eq_true p13; replace q13 := eq_true q13) | ((with_reducible refine gate_dst (N := 32) rfl ?_); (try (refine gate_guard (by rfl) ?_; dsimp only)); refine Kd.R_lit (Kd.int .u8) _ 5 ?hg (N := 32) ?hd (xs := ([bt a2 t525] : List Int)) (inner := [.int .u8 (bt a2 t525)]) (ok := fun _ => True) (okp := fun _ => True) ?hr ?hp (fun _ hk => hk) trivial (Below.refl _ _) (Nat.le_refl _) (by simp) ?_; (case hd => rfl); (case hg => rfl); (case hr => first | (go_simp; done) | (go_simp; rfl)); (case hp => exact (Reps.one (show Kd.M (Kd.int .u8) _ _ _ (bt a2 t525) [.int .u8 (bt a2 t525)] from rfl) (Reps.none _ _))); intro v529 w24 ho25 hb hg_ hnew_; clear hg_ hnew_; (first | rw [← Ny528.out] at ho25 | (simp only [Int.reduceToNat] at ho25; rw [← Ny528.out] at ho25)); have HO530 := A_ (Kd.R_lower ho25 (keep_size (w := w) (g := g) (row := none) ke_)); replace HB := A_ (below_step bx_ hb); replace HK := A_ (KeepBut.trans (ke_ (w := w)) (KeepBut.of_below hb g none) (.inl rfl)); replace HI0 := A_ (IsS60.below is_ hb); clear hb ho25; have hcv26 := own_string (P := Tryz.prog) Tryz.underlying22 Tryz.underlying5 Tryz.underlying9 (Kd.own_of_R HO530.out)) | (go_at_call 56; (with_reducible refine (spec_l1Cur_pick.calls g s0_0 t526 t527 3 t531 t532 t533 w0 _ ?side1 ?side2 A14.out).mono ?_); (case side1 => exact is_); (case side2 => exact bx_); rintro e w27 ⟨rfl, hi, hb, hk⟩; replace HK := A_ (KeepBut.trans (ke_ (w := w)) hk (.inl rfl)); replace HO530 := A_ (Kd.R_mono (Kd.R_keep (IsS60.apart (show IsS60 w0 _ g s0_0 t526 t527 from is_) (by (with_reducible repeat (first | apply Kd.R_alloc | apply Kd.R_drewN | apply Kd.R_drew)); exact HO530.out) (by decide)) hk (fun _ h => h.2)) (fun _ h => h.1)); replace HB := A_ (hb); replace HI0 := A_ (hi); (try clear hb hk hi))))
             go_roundg kj5
             case measure => have := HK1.out; have := HJ5.out; omega
             case rel => exact ⟨(((x1_1.extract 0 (t522 : Int).toNat) ++ (strOfNums y528)) ++ (x1_1.extract (t522 : Int).toNat x1_1.size)), (wrap64 (x7_1 - 1)), (t532), (t533), (rs_), (rs_), H', ⟨by have := HK1.out; have := HJ5.out; omega⟩, ⟨is_⟩, ⟨ke_⟩, ⟨bx_⟩⟩
            ·
             rw [if_neg c21] at H
             exact absurd H (by simp)
           ·
            rw [if_neg c18] at H
            exact absurd H (by simp)
          ·
           rw [if_neg c17] at H
           exact absurd H (by simp)
         ·
          rw [if_neg c16] at H
          exact absurd H (by simp)
        ·
         rw [if_neg c15] at H
         have c15b0 : (t531 == 0) = false := beq_eq_false_iff_ne.mpr c15
         have c15b1 : (t531 != 0) = true := bne_iff_ne.mpr c15
         by_cases c28 : t531 = 1
         ·
          rw [if_pos c28] at H
          have c28b0 : (t531 == 1) = true := beq_iff_eq.mpr c28
          have c28b1 : (t531 != 1) = false := bne_eq_false_iff_eq.mpr c28
          clear c28
          by_cases c29 : 0 ≤ t522
          ·
           rw [if_pos c29] at H
           have c29b0 := eq_true c29
           have c29b1 : decide (0 ≤ t522) = true := decide_eq_true c29
           clear c29
           by_cases c30 : t522 ≤ (x1_1.size : Int)
           ·
            rw [if_pos c30] at H
            have c30b0 := eq_true c30
            have c30b1 : decide (t522 ≤ (x1_1.size : Int)) = true := decide_eq_true c30
            clear c30
            by_cases c31 : (x1_1.extract 0 (t522 : Int).toNat).size + (strOfNums y528).size ≤ 9223372036854775807
            ·
             rw [if_pos c31] at H
             have c31b0 := eq_true c31
             have c31b1 : decide ((x1_1.extract 0 (t522 : Int).toNat).size + (strOfNums y528).size ≤ 9223372036854775807) = true := decide_eq_true c31
             try have c31b2 : (9223372036854775807 < (x1_1.extract 0 (t522 : Int).toNat).size + (strOfNums y528).size) = False := eq_false (Nat.not_lt.2 c31)
             obtain ⟨ji32, hji32⟩ : ∃ j_ : Int, (wrap64 (t522 + 1)) = j_ := ⟨_, rfl⟩
             replace H : (if 0 ≤ (ji32) then (if (ji32) ≤ (x1_1.size : Int) then (if ((x1_1.extract 0 (t522 : Int).toNat) ++ (strOfNums y528)).size + (x1_1.extract ((ji32) : Int).toNat x1_1.size).size ≤ 9223372036854775807 then (spec_l1Cur_spoilt.l0 kj5 (((x1_1.extract 0 (t522 : Int).toNat) ++ (strOfNums y528)) ++ (x1_1.extract ((ji32) : Int).toNat x1_1.size)) a2 (wrap64 (x7_1 - 1)) s0_0 t532 t533) else (none)) else (none)) else (none)) = some (r1, r2, r3) := by first | (rw [hji32] at H; exact H) | (simp only [hji32] at H ⊢; exact H)
             (try rw [hji32] at A9)
             (try rw [hji32] at A10)
             (try rw [hji32] at A14)
             have hji32w : (IntKind.i64.wrap (t522 + 1)) = ji32 := (i64_w _).trans hji32
             by_cases c33 : 0 ≤ (ji32)
             ·
              rw [if_pos c33] at H
              have c33b0 := eq_true c33
              have c33b1 : decide (0 ≤ (ji32)) = true := decide_eq_true c33
              clear c33
              by_cases c34 : (ji32) ≤ (x1_1.size : Int)
              ·
               rw [if_pos c34] at H
               have c34b0 := eq_true c34
               have c34b1 : decide ((ji32) ≤ (x1_1.size : Int)) = true := decide_eq_true c34
               clear c34
               by_cases c35 : ((x1_1.extract 0 (t522 : Int).toNat) ++ (strOfNums y528)).size + (x1_1.extract ((ji32) : Int).toNat x1_1.size).size ≤ 9223372036854775807
               ·
                rw [if_pos c35] at H
                have c35b0 := eq_true c35
                have c35b1 : decide (((x1_1.extract 0 (t522 : Int).toNat) ++ (strOfNums y528)).size + (x1_1.extract ((ji32) : Int).toNat x1_1.size).size ≤ 9223372036854775807) = true := decide_eq_true c35
                try have c35b2 : (9223372036854775807 < ((x1_1.extract 0 (t522 : Int).toNat) ++ (strOfNums y528)).size + (x1_1.extract ((ji32) : Int).toNat x1_1.size).size) = False := eq_false (Nat.not_lt.2 c35)
                (try (have c35b3 := c35b2; simp only [ByteArray.size_append] at c35b3))
                have H' := A_ H
                clear H
                go_wp2_with (first | (go_at_call 56; (with_reducible refine (spec_l1Cur_pick.calls g s0_0 x1001_1 x1002_1 (x1_1.size : Int) t522 t523 t524 w0 _ ?side1 ?side2 A9.out).mono ?_); (case side1 => exact is_); (case side2 => exact bx_); rintro e w36 ⟨rfl, hi, hb, hk⟩; replace HK := A_ (KeepBut.trans (ke_ (w := w)) hk (.inl rfl)); replace HB := A_ (hb); replace HI0 := A_ (hi); (try clear hb hk hi)) | (go_at_call 56; (with_reducible refine (spec_l1Cur_pick.calls g s0_0 t523 t524 (a2.size : Int) t525 t526 t527 w0 _ ?side1 ?side2 A10.out).mono ?_); (case side1 => exact is_); (case side2 => exact bx_); rintro e w37 ⟨rfl, hi, hb, hk⟩; replace HK := A_ (KeepBut.trans (ke_ (w := w)) hk (.inl rfl)); replace HB := A_ (hb); replace HI0 := A_ (hi); (try clear hb hk hi); have p13 : 0 ≤ (t525 : Int) := of_decide_eq_true (by first | (with_reducible assumption) | assumption); have q13 : t525 < (a2.size : Int) := of_decide_eq_true (by first | (with_reducible assumption) | assumption); have hx13 := bt_at a2 t525; replace p13 := eq_true p13; replace q13 := eq_true q13) | ((with_reducible refine gate_dst (N := 32) rfl ?_); (try (refine gate_guard (by rfl) ?_; dsimp only)); refine Kd.R_lit (Kd.int .u8) _ 5 ?hg (N := 32) ?hd (xs := ([bt a2 t525] : List Int)) (inner := [.int .u8 (bt a2 t525)]) (ok := fun _ => True) (okp := fun _ => True) ?hr ?hp (fun _ hk => hk) trivial (Below.refl _ _) (Nat.le_refl _) (by simp) ?_; (case hd => rfl); (case hg => rfl); (case hr => first | (go_simp; done) | (go_simp; rfl)); (case hp => exact (Reps.one (show Kd.M (Kd.int .u8) _ _ _ (bt a2 t525) [.int .u8 (bt a2 t525)] from rfl) (Reps.none _ _))); intro v529 w38 ho39 hb hg_ hnew_; clear hg_ hnew_; (first | rw [← Ny528.out] at ho39 | (simp only [Int.reduceToNat] at ho39; rw [← Ny528.out] at ho39)); have HO530 := A_ (Kd.R_lower ho39 (keep_size (w := w) (g := g) (row := none) ke_)); replace HB := A_ (below_step bx_ hb); replace HK := A_ (KeepBut.trans (ke_ (w := w)) (KeepBut.of_below hb g none) (.inl rfl)); replace HI0 := A_ (IsS60.below is_ hb); clear hb ho39; have hcv40 := own_string (P := Tryz.prog) Tryz.underlying22 Tryz.underlying5 Tryz.underlying9 (Kd.own_of_R HO530.out)) | (go_at_call 56; (with_reducible refine (spec_l1Cur_pick.calls g s0_0 t526 t527 3 t531 t532 t533 w0 _ ?side1 ?side2 A14.out).mono ?_); (case side1 => exact is_); (case side2 => exact bx_); rintro e w41 ⟨rfl, hi, hb, hk⟩; replace HK := A_ (KeepBut.trans (ke_ (w := w)) hk (.inl rfl)); replace HO530 := A_ (Kd.R_mono (Kd.R_keep (IsS60.apart (show IsS60 w0 _ g s0_0 t526 t527 from is_) (by (with_reducible repeat (first | apply Kd.R_alloc | apply Kd.R_drewN | apply Kd.R_drew)); exact HO530.out) (by decide)) hk (fun _ h => h.2)) (fun _ h => h.1)); replace HB := A_ (hb); replace HI0 := A_ (hi); (try clear hb hk hi)))
                repeat (go_quiet (first | (go_at_call 56; (with_reducible refine (spec_l1Cur_pick.calls g s0_0 x1001_1 x1002_1 (x1_1.size : Int) t522 t523 t524 w0 _ ?side1 ?side2 A9.out).mono ?_); (case side1 => exact is_); (case side2 => exact bx_); rintro e w36 ⟨rfl, hi, hb, hk⟩; replace HK := A_ (KeepBut.trans (ke_ (w := w)) hk (.inl rfl)); replace HB := A_ (hb); replace HI0 := A_ (hi); (try clear hb hk hi)) | (go_at_call 56; (with_reducible refine (spec_l1Cur_pick.calls g s0_0 t523 t524 (a2.size : Int) t525 t526 t527 w0 _ ?side1 ?side2 A10.out).mono ?_); (case side1 => exact is_); (case side2 => exact bx_); rintro e w37 ⟨rfl, hi, hb, hk⟩; replace HK := A_ (KeepBut.trans (ke_ (w := w)) hk (.inl rfl)); replace HB := A_ (hb); replace HI0 := A_ (hi); (try clear hb hk hi); have p13 : 0 ≤ (t525 : Int) := of_decide_eq_true (by first | (with_reducible assumption) | assumption); have q13 : t525 < (a2.size : Int) := of_decide_eq_true (by first | (with_reducible assumption) | assumption); have hx13 := bt_at a2 t525; replace p13 := eq_true p13; replace q13 := eq_true q13) | ((with_reducible refine gate_dst (N := 32) rfl ?_); (try (refine gate_guard (by rfl) ?_; dsimp only)); refine Kd.R_lit (Kd.int .u8) _ 5 ?hg (N := 32) ?hd (xs := ([bt a2 t525] : List Int)) (inner := [.int .u8 (bt a2 t525)]) (ok := fun _ => True) (okp := fun _ => True) ?hr ?hp (fun _ hk => hk) trivial (Below.refl _ _) (Nat.le_refl _) (by simp) ?_; (case hd => rfl); (case hg => rfl); (case hr => first | (go_simp; done) | (go_simp; rfl)); (case hp => exact (Reps.one (show Kd.M (Kd.int .u8) _ _ _ (bt a2 t525) [.int .u8 (bt a2 t525)] from rfl) (Reps.none _ _))); intro v529 w38 ho39 hb hg_ hnew_; clear hg_ hnew_; (first | rw [← Ny528.out] at ho39 | (simp only [Int.reduceToNat] at ho39; rw [← Ny528.out] at ho39)); have HO530 := A_ (Kd.R_lower ho39 (keep_size (w := w) (g := g) (row := none) ke_)); replace HB := A_ (below_step bx_ hb); replace HK := A_ (KeepBut.trans (ke_ (w := w)) (KeepBut.of_below hb g none) (.inl rfl)); replace HI0 := A_ (IsS60.below is_ hb); clear hb ho39; have hcv40 := own_string (P := Tryz.prog) Tryz.underlying22 Tryz.underlying5 Tryz.underlying9 (Kd.own_of_R HO530.out)) | (go_at_call 56; (with_reducible refine (spec_l1Cur_pick.calls g s0_0 t526 t527 3 t531 t532 t533 w0 _ ?side1 ?side2 A14.out).mono ?_); (case side1 => exact is_); (case side2 => exact bx_); rintro e w41 ⟨rfl, hi, hb, hk⟩; replace HK := A_ (KeepBut.trans (ke_ (w := w)) hk (.inl rfl)); replace HO530 := A_ (Kd.R_mono (Kd.R_keep (IsS60.apart (show IsS60 w0 _ g s0_0 t526 t527 from is_) (by (with_reducible repeat (first | apply Kd.R_alloc | apply Kd.R_drewN | apply Kd.R_drew)); exact HO530.out) (by decide)) hk (fun _ h => h.2)) (fun _ h => h.1)); replace HB := A_ (hb); replace HI0 := A_ (hi); (try clear hb hk hi))); try go_wp2_with (first | (go_at_call 56; (with_reducible refine (spec_l1Cur_pick.calls g s0_0 x1001_1 x1002_1 (x1_1.size : Int) t522 t523 t524 w0 _ ?side1 ?side2 A9.out).mono ?_); (case side1 => exact is_); (case side2 => exact bx_); rintro e w36 ⟨rfl, hi, hb, hk⟩; replace HK := A_ (KeepBut.trans (ke_ (w := w)) hk (.inl rfl)); replace HB := A_ (hb); replace HI0 := A_ (hi); (try clear hb hk hi)) | (go_at_call 56; (with_reducible refine (spec_l1Cur_pick.calls g s0_0 t523 t524 (a2.size : Int) t525 t526 t527 w0 _ ?side1 ?side2 A10.out).mono ?_); (case side1 => exact is_); (case side2 => exact bx_); rintro e w37 ⟨rfl, hi, hb, hk⟩; replace HK := A_ (KeepBut.trans (ke_ (w := w)) hk (.inl rfl)); replace HB := A_ (hb); replace HI0 := A_ (hi); (try clear hb hk hi); have p13 : 0 ≤ (t525 : Int) := of_decide_eq_true (by first | (with_reducible assumption) | assumption); have q13 : t525 < (a2.size : Int) := of_decide_eq_true (by first | (with_reducible assumption) | assumption); have hx13 := bt_at a2 t525; replace p13 := eq_true p13; replace q13 := eq_true q13) | ((with_reducible refine gate_dst (N := 32) rfl ?_); (try (refine gate_guard (by rfl) ?_; dsimp only)); refine Kd.R_lit (Kd.int .u8) _ 5 ?hg (N := 32) ?hd (xs := ([bt a2 t525] : List Int)) (inner := [.int .u8 (bt a2 t525)]) (ok := fun _ => True) (okp := fun _ => True) ?hr ?hp (fun _ hk => hk) trivial (Below.refl _ _) (Nat.le_refl _) (by simp) ?_; (case hd => rfl); (case hg => rfl); (case hr => first | (go_simp; done) | (go_simp; rfl)); (case hp => exact (Reps.one (show Kd.M (Kd.int .u8) _ _ _ (bt a2 t525) [.int .u8 (bt a2 t525)] from rfl) (Reps.none _ _))); intro v529 w38 ho39 hb hg_ hnew_; clear hg_ hnew_; (first | rw [← Ny528.out] at ho39 | (simp only [Int.reduceToNat] at ho39; rw [← Ny528.out] at ho39)); have HO530 := A_ (Kd.R_lower ho39 (keep_size (w := w) (g := g) (row := none) ke_)); replace HB := A_ (below_step bx_ hb); replace HK := A_ (KeepBut.trans (ke_ (w := w)) (KeepBut.of_below hb g none) (.inl rfl)); replace HI0 := A_ (IsS60.below is_ hb); clear hb ho39; have hcv40 := own_string (P := Tryz.prog) Tryz.underlying22 Tryz.underlying5 Tryz.underlying9 (Kd.own_of_R HO530.out)) | (go_at_call 56; (with_reducible refine (spec_l1Cur_pick.calls g s0_0 t526 t527 3 t531 t532 t533 w0 _ ?side1 ?side2 A14.out).mono ?_); (case side1 => exact is_); (case side2 => exact bx_); rintro e w41 ⟨rfl, hi, hb, hk⟩; replace HK := A_ (KeepBut.trans (ke_ (w := w)) hk (.inl rfl)); replace HO530 := A_ (Kd.R_mono (Kd.R_keep (IsS60.apart (show IsS60 w0 _ g s0_0 t526 t527 from is_) (by (with_reducible repeat (first | apply Kd.R_alloc | apply Kd.R_drewN | apply Kd.R_drew)); exact HO530.out) (by decide)) hk (fun _ h => h.2)) (fun _ h => h.1)); replace HB := A_ (hb); replace HI0 := A_ (hi); (try clear hb hk hi))))
                go_roundg kj5
                case measure => have := HK1.out; have := HJ5.out; omega
                case rel => exact ⟨(((x1_1.extract 0 (t522 : Int).toNat) ++ (strOfNums y528)) ++ (x1_1.extract ((ji32) : Int).toNat x1_1.size)), (wrap64 (x7_1 - 1)), (t532), (t533), (by first | rfl | (simp; done) | (simp only [← hji32] <;> (first | rfl | simp)) | (simp [*]; done)), (rs_), H', ⟨by have := HK1.out; have := HJ5.out; omega⟩, ⟨is_⟩, ⟨ke_⟩, ⟨bx_⟩⟩
               ·
                rw [if_neg c35] at H
                exact absurd H (by simp)
              ·
               rw [if_neg c34] at H
               exact absurd H (by simp)
             ·
              rw [if_neg c33] at H
              exact absurd H (by simp)
            ·
             rw [if_neg c31] at H
             exact absurd H (by simp)
           ·
            rw [if_neg c30] at H
            exact absurd H (by simp)
          ·
           rw [if_neg c29] at H
           exact absurd H (by simp)
         ·
          rw [if_neg c28] at H
          have c28b0 : (t531 == 1) = false := beq_eq_false_iff_ne.mpr c28
          have c28b1 : (t531 != 1) = true := bne_iff_ne.mpr c28
          by_cases c42 : 0 ≤ t522
          ·
           rw [if_pos c42] at H
           have c42b0 := eq_true c42
           have c42b1 : decide (0 ≤ t522) = true := decide_eq_true c42
           clear c42
           by_cases c43 : t522 ≤ (x1_1.size : Int)
           ·
            rw [if_pos c43] at H
            have c43b0 := eq_true c43
            have c43b1 : decide (t522 ≤ (x1_1.size : Int)) = true := decide_eq_true c43
            clear c43
            obtain ⟨ji44, hji44⟩ : ∃ j_ : Int, (wrap64 (t522 + 1)) = j_ := ⟨_, rfl⟩
            replace H : (if 0 ≤ (ji44) then (if (ji44) ≤ (x1_1.size : Int) then (if (x1_1.extract 0 (t522 : Int).toNat).size + (x1_1.extract ((ji44) : Int).toNat x1_1.size).size ≤ 9223372036854775807 then (spec_l1Cur_spoilt.l0 kj5 ((x1_1.extract 0 (t522 : Int).toNat) ++ (x1_1.extract ((ji44) : Int).toNat x1_1.size)) a2 (wrap64 (x7_1 - 1)) s0_0 t532 t533) else (none)) else (none)) else (none)) = some (r1, r2, r3) := by first | (rw [hji44] at H; exact H) | (simp only [hji44] at H ⊢; exact H)
            (try rw [hji44] at A9)
            (try rw [hji44] at A10)
            (try rw [hji44] at A14)
            have hji44w : (IntKind.i64.wrap (t522 + 1)) = ji44 := (i64_w _).trans hji44
            by_cases c45 : 0 ≤ (ji44)
            ·
             rw [if_pos c45] at H
             have c45b0 := eq_true c45
             have c45b1 : decide (0 ≤ (ji44)) = true := decide_eq_true c45
             clear c45
             by_cases c46 : (ji44) ≤ (x1_1.size : Int)
             ·
              rw [if_pos c46] at H
              have c46b0 := eq_true c46
              have c46b1 : decide ((ji44) ≤ (x1_1.size : Int)) = true := decide_eq_true c46
              clear c46
              by_cases c47 : (x1_1.extract 0 (t522 : Int).toNat).size + (x1_1.extract ((ji44) : Int).toNat x1_1.size).size ≤ 9223372036854775807
              ·
               rw [if_pos c47] at H
               have c47b0 := eq_true c47
               have c47b1 : decide ((x1_1.extract 0 (t522 : Int).toNat).size + (x1_1.extract ((ji44) : Int).toNat x1_1.size).size ≤ 9223372036854775807) = true := decide_eq_true c47
               try have c47b2 : (9223372036854775807 < (x1_1.extract 0 (t522 : Int).toNat).size + (x1_1.extract ((ji44) : Int).toNat x1_1.size).size) = False := eq_false (Nat.not_lt.2 c47)
               have H' := A_ H
               clear H
               go_wp2_with (first | (go_at_call 56; (with_reducible refine (spec_l1Cur_pick.calls g s0_0 x1001_1 x1002_1 (x1_1.size : Int) t522 t523 t524 w0 _ ?side1 ?side2 A9.out).mono ?_); (case side1 => exact is_); (case side2 => exact bx_); rintro e w48 ⟨rfl, hi, hb, hk⟩; replace HK := A_ (KeepBut.trans (ke_ (w := w)) hk (.inl rfl)); replace HB := A_ (hb); replace HI0 := A_ (hi); (try clear hb hk hi)) | (go_at_call 56; (with_reducible refine (spec_l1Cur_pick.calls g s0_0 t523 t524 (a2.size : Int) t525 t526 t527 w0 _ ?side1 ?side2 A10.out).mono ?_); (case side1 => exact is_); (case side2 => exact bx_); rintro e w49 ⟨rfl, hi, hb, hk⟩; replace HK := A_ (KeepBut.trans (ke_ (w := w)) hk (.inl rfl)); replace HB := A_ (hb); replace HI0 := A_ (hi); (try clear hb hk hi); have p13 : 0 ≤ (t525 : Int) := of_decide_eq_true (by first | (with_reducible assumption) | assumption); have q13 : t525 < (a2.size : Int) := of_decide_eq_true (by first | (with_reducible assumption) | assumption); have hx13 := bt_at a2 t525; replace p13 := eq_true p13; replace q13 := eq_true q13) | ((with_reducible refine gate_dst (N := 32) rfl ?_); (try (refine gate_guard (by rfl) ?_; dsimp only)); refine Kd.R_lit (Kd.int .u8) _ 5 ?hg (N := 32) ?hd (xs := ([bt a2 t525] : List Int)) (inner := [.int .u8 (bt a2 t525)]) (ok := fun _ => True) (okp := fun _ => True) ?hr ?hp (fun _ hk => hk) trivial (Below.refl _ _) (Nat.le_refl _) (by simp) ?_; (case hd => rfl); (case hg => rfl); (case hr => first | (go_simp; done) | (go_simp; rfl)); (case hp => exact (Reps.one (show Kd.M (Kd.int .u8) _ _ _ (bt a2 t525) [.int .u8 (bt a2 t525)] from rfl) (Reps.none _ _))); intro v529 w50 ho51 hb hg_ hnew_; clear hg_ hnew_; (first | rw [← Ny528.out] at ho51 | (simp only [Int.reduceToNat] at ho51; rw [← Ny528.out] at ho51)); have HO530 := A_ (Kd.R_lower ho51 (keep_size (w := w) (g := g) (row := none) ke_)); replace HB := A_ (below_step bx_ hb); replace HK := A_ (KeepBut.trans (ke_ (w := w)) (KeepBut.of_below hb g none) (.inl rfl)); replace HI0 := A_ (IsS60.below is_ hb); clear hb ho51; have hcv52 := own_string (P := Tryz.prog) Tryz.underlying22 Tryz.underlying5 Tryz.underlying9 (Kd.own_of_R HO530.out)) | (go_at_call 56; (with_reducible refine (spec_l1Cur_pick.calls g s0_0 t526 t527 3 t531 t532 t533 w0 _ ?side1 ?side2 A14.out).mono ?_); (case side1 => exact is_); (case side2 => exact bx_); rintro e w53 ⟨rfl, hi, hb, hk⟩; replace HK := A_ (KeepBut.trans (ke_ (w := w)) hk (.inl rfl)); replace HO530 := A_ (Kd.R_mono (Kd.R_keep (IsS60.apart (show IsS60 w0 _ g s0_0 t526 t527 from is_) (by (with_reducible repeat (first | apply Kd.R_alloc | apply Kd.R_drewN | apply Kd.R_drew)); exact HO530.out) (by decide)) hk (fun _ h => h.2)) (fun _ h => h.1)); replace HB := A_ (hb); replace HI0 := A_ (hi); (try clear hb hk hi)))
               repeat (go_quiet (first | (go_at_call 56; (with_reducible refine (spec_l1Cur_pick.calls g s0_0 x1001_1 x1002_1 (x1_1.size : Int) t522 t523 t524 w0 _ ?side1 ?side2 A9.out).mono ?_); (case side1 => exact is_); (case side2 => exact bx_); rintro e w48 ⟨rfl, hi, hb, hk⟩; replace HK := A_ (KeepBut.trans (ke_ (w := w)) hk (.inl rfl)); replace HB := A_ (hb); replace HI0 := A_ (hi); (try clear hb hk hi)) | (go_at_call 56; (with_reducible refine (spec_l1Cur_pick.calls g s0_0 t523 t524 (a2.size : Int) t525 t526 t527 w0 _ ?side1 ?side2 A10.out).mono ?_); (case side1 => exact is_); (case side2 => exact bx_); rintro e w49 ⟨rfl, hi, hb, hk⟩; replace HK := A_ (KeepBut.trans (ke_ (w := w)) hk (.inl rfl)); replace HB := A_ (hb); replace HI0 := A_ (hi); (try clear hb hk hi); have p13 : 0 ≤ (t525 : Int) := of_decide_eq_true (by first | (with_reducible assumption) | assumption); have q13 : t525 < (a2.size : Int) := of_decide_eq_true (by first | (with_reducible assumption) | assumption); have hx13 := bt_at a2 t525; replace p13 := eq_true p13; replace q13 := eq_true q13) | ((with_reducible refine gate_dst (N := 32) rfl ?_); (try (refine gate_guard (by rfl) ?_; dsimp only)); refine Kd.R_lit (Kd.int .u8) _ 5 ?hg (N := 32) ?hd (xs := ([bt a2 t525] : List Int)) (inner := [.int .u8 (bt a2 t525)]) (ok := fun _ => True) (okp := fun _ => True) ?hr ?hp (fun _ hk => hk) trivial (Below.refl _ _) (Nat.le_refl _) (by simp) ?_; (case hd => rfl); (case hg => rfl); (case hr => first | (go_simp; done) | (go_simp; rfl)); (case hp => exact (Reps.one (show Kd.M (Kd.int .u8) _ _ _ (bt a2 t525) [.int .u8 (bt a2 t525)] from rfl) (Reps.none _ _))); intro v529 w50 ho51 hb hg_ hnew_; clear hg_ hnew_; (first | rw [← Ny528.out] at ho51 | (simp only [Int.reduceToNat] at ho51; rw [← Ny528.out] at ho51)); have HO530 := A_ (Kd.R_lower ho51 (keep_size (w := w) (g := g) (row := none) ke_)); replace HB := A_ (below_step bx_ hb); replace HK := A_ (KeepBut.trans (ke_ (w := w)) (KeepBut.of_below hb g none) (.inl rfl)); replace HI0 := A_ (IsS60.below is_ hb); clear hb ho51; have hcv52 := own_string (P := Tryz.prog) Tryz.underlying22 Tryz.underlying5 Tryz.underlying9 (Kd.own_of_R HO530.out)) | (go_at_call 56; (with_reducible refine (spec_l1Cur_pick.calls g s0_0 t526 t527 3 t531 t532 t533 w0 _ ?side1 ?side2 A14.out).mono ?_); (case side1 => exact is_); (case side2 => exact bx_); rintro e w53 ⟨rfl, hi, hb, hk⟩; replace HK := A_ (KeepBut.trans (ke_ (w := w)) hk (.inl rfl)); replace HO530 := A_ (Kd.R_mono (Kd.R_keep (IsS60.apart (show IsS60 w0 _ g s0_0 t526 t527 from is_) (by (with_reducible repeat (first | apply Kd.R_alloc | apply Kd.R_drewN | apply Kd.R_drew)); exact HO530.out) (by decide)) hk (fun _ h => h.2)) (fun _ h => h.1)); replace HB := A_ (hb); replace HI0 := A_ (hi); (try clear hb hk hi))); try go_wp2_with (first | (go_at_call 56; (with_reducible refine (spec_l1Cur_pick.calls g s0_0 x1001_1 x1002_1 (x1_1.size : Int) t522 t523 t524 w0 _ ?side1 ?side2 A9.out).mono ?_); (case side1 => exact is_); (case side2 => exact bx_); rintro e w48 ⟨rfl, hi, hb, hk⟩; replace HK := A_ (KeepBut.trans (ke_ (w := w)) hk (.inl rfl)); replace HB := A_ (hb); replace HI0 := A_ (hi); (try clear hb hk hi)) | (go_at_call 56; (with_reducible refine (spec_l1Cur_pick.calls g s0_0 t523 t524 (a2.size : Int) t525 t526 t527 w0 _ ?side1 ?side2 A10.out).mono ?_); (case side1 => exact is_); (case side2 => exact bx_); rintro e w49 ⟨rfl, hi, hb, hk⟩; replace HK := A_ (KeepBut.trans (ke_ (w := w)) hk (.inl rfl)); replace HB := A_ (hb); replace HI0 := A_ (hi); (try clear hb hk hi); have p13 : 0 ≤ (t525 : Int) := of_decide_eq_true (by first | (with_reducible assumption) | assumption); have q13 : t525 < (a2.size : Int) := of_decide_eq_true (by first | (with_reducible assumption) | assumption); have hx13 := bt_at a2 t525; replace p13 := eq_true p13; replace q13 := eq_true q13) | ((with_reducible refine gate_dst (N := 32) rfl ?_); (try (refine gate_guard (by rfl) ?_; dsimp only)); refine Kd.R_lit (Kd.int .u8) _ 5 ?hg (N := 32) ?hd (xs := ([bt a2 t525] : List Int)) (inner := [.int .u8 (bt a2 t525)]) (ok := fun _ => True) (okp := fun _ => True) ?hr ?hp (fun _ hk => hk) trivial (Below.refl _ _) (Nat.le_refl _) (by simp) ?_; (case hd => rfl); (case hg => rfl); (case hr => first | (go_simp; done) | (go_simp; rfl)); (case hp => exact (Reps.one (show Kd.M (Kd.int .u8) _ _ _ (bt a2 t525) [.int .u8 (bt a2 t525)] from rfl) (Reps.none _ _))); intro v529 w50 ho51 hb hg_ hnew_; clear hg_ hnew_; (first | rw [← Ny528.out] at ho51 | (simp only [Int.reduceToNat] at ho51; rw [← Ny528.out] at ho51)); have HO530 := A_ (Kd.R_lower ho51 (keep_size (w := w) (g := g) (row := none) ke_)); replace HB := A_ (below_step bx_ hb); replace HK := A_ (KeepBut.trans (ke_ (w := w)) (KeepBut.of_below hb g none) (.inl rfl)); replace HI0 := A_ (IsS60.below is_ hb); clear hb ho51; have hcv52 := own_string (P := Tryz.prog) Tryz.underlying22 Tryz.underlying5 Tryz.underlying9 (Kd.own_of_R HO530.out)) | (go_at_call 56; (with_reducible refine (spec_l1Cur_pick.calls g s0_0 t526 t527 3 t531 t532 t533 w0 _ ?side1 ?side2 A14.out).mono ?_); (case side1 => exact is_); (case side2 => exact bx_); rintro e w53 ⟨rfl, hi, hb, hk⟩; replace HK := A_ (KeepBut.trans (ke_ (w := w)) hk (.inl rfl)); replace HO530 := A_ (Kd.R_mono (Kd.R_keep (IsS60.apart (show IsS60 w0 _ g s0_0 t526 t527 from is_) (by (with_reducible repeat (first | apply Kd.R_alloc | apply Kd.R_drewN | apply Kd.R_drew)); exact HO530.out) (by decide)) hk (fun _ h => h.2)) (fun _ h => h.1)); replace HB := A_ (hb); replace HI0 := A_ (hi); (try clear hb hk hi))))
               go_roundg kj5
               case measure => have := HK1.out; have := HJ5.out; omega
               case rel => exact ⟨((x1_1.extract 0 (t522 : Int).toNat) ++ (x1_1.extract ((ji44) : Int).toNat x1_1.size)), (wrap64 (x7_1 - 1)), (t532), (t533), (by first | rfl | (simp; done) | (simp only [← hji44] <;> (first | rfl | simp)) | (simp [*]; done)), (rs_), H', ⟨by have := HK1.out; have := HJ5.out; omega⟩, ⟨is_⟩, ⟨ke_⟩, ⟨bx_⟩⟩
              ·
               rw [if_neg c47] at H
               exact absurd H (by simp)
             ·
              rw [if_neg c46] at H
              exact absurd H (by simp)
            ·
             rw [if_neg c45] at H
             exact absurd H (by simp)
           ·
            rw [if_neg c43] at H
            exact absurd H (by simp)
          ·
           rw [if_neg c42] at H
           exact absurd H (by simp)
       ·
        rw [if_neg c12] at H
        exact absurd H (by simp)
      ·
       rw [if_neg c11] at H
       exact absurd H (by simp)
     ·
      replace c8 := Bool.eq_false_iff.mpr c8
      subst c8
      rw [if_neg (show ¬ (false = true) by decide)] at H
      simp only [Option.some.injEq, Prod.mk.injEq] at H
      obtain ⟨rfl, rfl, rfl⟩ := H
      go_wp2
      repeat (go_quiet (fail); try go_wp2)
      go_ret
      exact ⟨rt_, is_, bx_, ke_⟩

end Go.Proofs.YtfkieckkmcibbaaGreatDoor.PFnRunnersRun
