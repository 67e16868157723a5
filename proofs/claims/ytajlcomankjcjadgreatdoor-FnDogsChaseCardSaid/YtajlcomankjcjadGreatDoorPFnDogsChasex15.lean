-- Laid by a program of this session's (wip/gen/printp.sh): the functions that the law reaches, each with its walk.
import Derived.Test.YtajlcomankjcjadGreatDoorPFnDogsChasex0
import Derived.Test.YtajlcomankjcjadGreatDoorPFnDogsChasex3
import Derived.Test.YtajlcomankjcjadGreatDoorPFnDogsChasex14
namespace Go.Proofs.YtajlcomankjcjadGreatDoor.PFnDogsChase
open Go.RowKit Go.Proofs.YtajlcomankjcjadGreatDoorW.PrintWords Go.Proofs.YtajlcomankjcjadGreatDoorW.PrintLast Go.Proofs.YtajlcomankjcjadGreatDoorW.PrintMore
attribute [local go_sem] max2_int min2_int max_two min_two max_three min_three max_four min_four   -- for this text's walks alone
set_option linter.unusedVariables false
set_option linter.unusedSimpArgs false

/-! ### spec_doParse: function 52 -/
def spec_doParse.j0 : Nat → List ByteArray → Bool → Option (Int × Int × Int × Int × Bool)
  | 0, _, _ => none
  | k + 1, x4, x15 => if x15 = true then (some (0, 0, 0, 0, false)) else (if 0 < (x4.length : Int) then ((spec_l1Read.f k (rdOf ByteArray.empty x4 0)).bind fun t491 => (if 1 < (x4.length : Int) then ((spec_l1Read.f k (rdOf ByteArray.empty x4 1)).bind fun t493 => (if 2 < (x4.length : Int) then ((spec_l1Read.f k (rdOf ByteArray.empty x4 2)).bind fun t495 => (if 3 < (x4.length : Int) then ((spec_l1Read.f k (rdOf ByteArray.empty x4 3)).bind fun t497 => ((spec_doGood.f t491 t493 t495 t497).bind fun t499 => (if t499 = true then (some (t491, t493, t495, t497, true)) else (some (0, 0, 0, 0, false))))) else (none))) else (none))) else (none))) else (none))
def spec_doParse.f (k : Nat) (a0 : ByteArray) : Option (Int × Int × Int × Int × Bool) := (spec_l1Split.f k a0 45).bind fun t487 => (if (a0.size : Int) > 16 then (spec_doParse.j0 k t487 true) else (spec_doParse.j0 k t487 ((t487.length : Int) != 4)))


def spec_doParse.T4 : Bool × List (List Nat × List Nat) := (true, [([], []), ([0], [0]), ([1], [1]), ([2], [2]), ([], []), ([4], [4]), ([5], [5]), ([6, 3], [6]), ([], []), ([8], [8]), ([9], [9]), ([10, 7], [10]), ([], []), ([12], [12]), ([13], [13]), ([14, 11], [14]), ([3, 7, 11, 15], [3, 7, 11, 15]), ([], []), ([17, 16, 15, 0, 1, 2, 3, 4, 5, 6, 7, 8, 9, 10, 11, 12, 13, 14, 15, 16, 17], [16, 17])])
def spec_doParse.B4 : List Nat := [0, 1, 3, 7, 0, 16, 48, 127, 0, 256, 768, 2047, 0, 4096, 12288, 32767, 65535, 0, 262143]
theorem spec_doParse.tab4 : rtab .any (opsOf Tryz.f52 4) = spec_doParse.T4 := by kernel_rfl
theorem spec_doParse.bits4 : waitsOk spec_doParse.T4.2 spec_doParse.B4 = true := by kernel_rfl
set_option maxHeartbeats 8000000 in
set_option maxRecDepth 100000 in
theorem spec_doParse.calls (k : Nat) (a0 : ByteArray) (r1 : Int) (r2 : Int) (r3 : Int) (r4 : Int) (r5 : Bool) (w : World) (h : spec_doParse.f k a0 = some (r1, r2, r3, r4, r5)) :
  Calls Tryz.prog 52 #[.string a0] w fun e w' => e = .returned (.tuple #[.agg #[.int .i64 r1, .int .i64 r2, .int .i64 r3, .int .i64 r4], .bool r5]) ∧ Below w.heap.size w w' := by
 have hu25 := Tryz.underlying25
 have HB := Aside0.mk (Below.refl w.heap.size w)
 have H := h
 unfold spec_doParse.f at H
 clear h
 replace H := Option.bind_eq_some_iff.mp H
 obtain ⟨t487, A20, H⟩ := H
 (try dsimp only at H)
 have A2 := Aside0.mk A20
 clear A20
 have HC3 := Aside0.mk H
 clear H
 go_enter Tryz.func52, Tryz.ntmps52
 go_upto_region 2 with (first | ((with_reducible refine gate_dst (N := 2) rfl ?_); (try (refine gate_guard (by rfl) ?_; dsimp only)); refine be_ 2 #[.int .i64 0, .int .i64 0, .int .i64 0, .int .i64 0] 25 ?_; intro gb486 hg w4 hbox hb; have n0_ := Aside0.mk (below_step bw_ hb); have n1_ := Aside0.mk (hbox); have n2_ := Aside0.mk (bz_ (w := w) hg); have n3_ := Aside0.mk (bz_ (w := w) hg); clear HB; have HB := n0_; have BK486 := n1_; have GW486 := n2_; have GE486 := n3_; clear n0_ n1_ n2_ n3_; clear hb hbox hg) | ((with_reducible refine gate_callee (f := 65) rfl ?_); refine gl_ (some 7) Tryz.func65 #[.string a0, .int .u8 45] ?_; (with_reducible refine (spec_l1Split.calls k a0 45 t487 _ A2.out).mono ?_); rintro e w5 ⟨v488, rfl, ho0, hb⟩; refine ⟨_, rfl, ?_⟩; have n0_ := Aside0.mk (Kd.R_lower ho0 (below_size bw_)); have n1_ := Aside0.mk (bb_ BK486.out hb); have n2_ := Aside0.mk (below_step bw_ hb); clear BK486; clear HB; have HO489 := n0_; have BK486 := n1_; have HB := n2_; clear n0_ n1_ n2_; (try clear hb); (try clear hb2); (try clear hk); (try clear hi); (try clear ho0)))
 (try simp only [Act.put, List.setIfInBounds_toArray, List.set_cons_zero, List.set_cons_succ])
 go_cut [15] (fun v15 wc => ∃ (kq : Nat) (x15_2 : Bool), v15 = .bool x15_2 ∧ Aside0 (spec_doParse.j0 kq t487 x15_2 = some (r1, r2, r3, r4, r5)) ∧ Aside0 (kq ≤ k) ∧ Aside0 (Kd.R Kd.string 9 wc w.heap.size (fun _ => True) v488 t487) ∧ Aside0 (wc.heap[gb486]? = some (.cells #[.int .i64 0, .int .i64 0, .int .i64 0, .int .i64 0] 25 (0, 0))) ∧ Aside0 (Below w.heap.size w wc))
 case first =>
  have H := HC3.out
  clear HC3
  by_cases c6 : (a0.size : Int) > 16
  ·
   rw [if_pos c6] at H
   have c6b0 : decide (16 < (a0.size : Int)) = true := decide_eq_true c6
   have c6b1 : decide (16 < a0.size) = true := decide_eq_true (by omega)
   clear c6
   (first | rw [c6b0] | (simp only [i64_w, i32_w]; rw [c6b0]) | skip)
   have H' := Aside0.mk H
   clear H
   go_wp2
   go_meet
   case rel => exact ⟨_, (true), (rs_), H', ⟨by first | omega | exact Nat.le_refl _⟩, ⟨by (with_reducible repeat (first | apply Kd.R_alloc | apply Kd.R_drewN | apply Kd.R_drew)); exact HO489.out⟩, ⟨bk_⟩, ⟨bw_⟩⟩
  ·
   rw [if_neg c6] at H
   have c6b0 : decide (16 < (a0.size : Int)) = false := decide_eq_false c6
   have c6b1 : decide (16 < a0.size) = false := decide_eq_false (by omega)
   clear c6
   (first | rw [c6b0] | (simp only [i64_w, i32_w]; rw [c6b0]) | skip)
   have H' := Aside0.mk H
   clear H
   obtain ⟨Ao7, co7, eo7⟩ := Kd.R_slice HO489.out
   subst eo7
   go_wp2
   go_meet
   case rel => exact ⟨_, (((t487.length : Int) != 4)), (rs_), H', ⟨by first | omega | exact Nat.le_refl _⟩, ⟨by (with_reducible repeat (first | apply Kd.R_alloc | apply Kd.R_drewN | apply Kd.R_drew)); exact HO489.out⟩, ⟨bk_⟩, ⟨bw_⟩⟩
 case rest =>
  clear HC3
  try clear p2
  try clear c5
  try clear c6
  try clear c6b0
  try clear c6b1
  obtain ⟨kq, x15_2, rfl, HA, HJ2, HO_4, BK486, HB⟩ := hcut
  cases kq with
    | zero => exact absurd HA.out (by simp [spec_doParse.j0])
    | succ kj2 =>
   have H := HA.out
   clear HA
   simp only [spec_doParse.j0] at H
   by_cases c8 : x15_2 = true
   ·
    subst c8
    rw [if_pos rfl] at H
    simp only [Option.some.injEq, Prod.mk.injEq] at H
    obtain ⟨rfl, rfl, rfl, rfl, rfl⟩ := H
    obtain ⟨hcz9_0, hcz9_1, hcz9_2, hcz9_3, hfz9_0, hfz9_1, hfz9_2, hfz9_3⟩ := four_ BK486.out
    go_wp2
    refine bodyPost_ret (results_ct rfl _ _ gb486 25 #[.int .i64 0, .int .i64 0, .int .i64 0, .int .i64 0] (0, 0) _ rfl (by (with_reducible repeat (first | refine blk_drewN ?_ _ | refine blk_drew ?_ | refine blk_alloc ?_ _)); refine blk_put (cs := #[.int .i64 0, .int .i64 0, .int .i64 0, .int .i64 0]) ?_ 3 _ rfl; (with_reducible repeat (first | refine blk_drewN ?_ _ | refine blk_drew ?_ | refine blk_alloc ?_ _)); refine blk_put (cs := #[.int .i64 0, .int .i64 0, .int .i64 0, .int .i64 0]) ?_ 2 _ rfl; (with_reducible repeat (first | refine blk_drewN ?_ _ | refine blk_drew ?_ | refine blk_alloc ?_ _)); refine blk_put (cs := #[.int .i64 0, .int .i64 0, .int .i64 0, .int .i64 0]) ?_ 1 _ rfl; (with_reducible repeat (first | refine blk_drewN ?_ _ | refine blk_drew ?_ | refine blk_alloc ?_ _)); refine blk_put (cs := #[.int .i64 0, .int .i64 0, .int .i64 0, .int .i64 0]) ?_ 0 _ rfl; (with_reducible repeat (first | refine blk_drewN ?_ _ | refine blk_drew ?_ | refine blk_alloc ?_ _)); exact BK486.out) Tryz.underlying25 rfl (by kernel_rfl)) rfl ?_
    exact ⟨rt_, bw_⟩
   ·
    replace c8 := Bool.eq_false_iff.mpr c8
    subst c8
    rw [if_neg (show ¬ (false = true) by decide)] at H
    by_cases c10 : 0 < (t487.length : Int)
    ·
     rw [if_pos c10] at H
     have c10b0 : decide (0 < (t487.length : Int)) = true := decide_eq_true c10
     have c10b1 : decide (0 < t487.length) = true := decide_eq_true (by omega)
     clear c10
     replace H := Option.bind_eq_some_iff.mp H
     obtain ⟨t491, A110, H⟩ := H
     (try dsimp only at H)
     have A11 := Aside0.mk A110
     clear A110
     by_cases c12 : 1 < (t487.length : Int)
     ·
      rw [if_pos c12] at H
      have c12b0 : decide (1 < (t487.length : Int)) = true := decide_eq_true c12
      have c12b1 : decide (1 < t487.length) = true := decide_eq_true (by omega)
      clear c12
      replace H := Option.bind_eq_some_iff.mp H
      obtain ⟨t493, A130, H⟩ := H
      (try dsimp only at H)
      have A13 := Aside0.mk A130
      clear A130
      by_cases c14 : 2 < (t487.length : Int)
      ·
       rw [if_pos c14] at H
       have c14b0 : decide (2 < (t487.length : Int)) = true := decide_eq_true c14
       have c14b1 : decide (2 < t487.length) = true := decide_eq_true (by omega)
       clear c14
       replace H := Option.bind_eq_some_iff.mp H
       obtain ⟨t495, A150, H⟩ := H
       (try dsimp only at H)
       have A15 := Aside0.mk A150
       clear A150
       by_cases c16 : 3 < (t487.length : Int)
       ·
        rw [if_pos c16] at H
        have c16b0 : decide (3 < (t487.length : Int)) = true := decide_eq_true c16
        have c16b1 : decide (3 < t487.length) = true := decide_eq_true (by omega)
        clear c16
        replace H := Option.bind_eq_some_iff.mp H
        obtain ⟨t497, A170, H⟩ := H
        (try dsimp only at H)
        have A17 := Aside0.mk A170
        clear A170
        replace H := Option.bind_eq_some_iff.mp H
        obtain ⟨t499, A180, H⟩ := H
        (try dsimp only at H)
        have A18 := Aside0.mk A180
        clear A180
        have HC_ := Aside0.mk H
        clear H
        try go_wp2
        have n0_ := Aside0.mk (Kd.R_drew HO_4.out)
        have n1_ := Aside0.mk (blk_drew BK486.out)
        have n2_ := Aside0.mk (below_drew1 HB.out)
        clear HO_4
        clear BK486
        clear HB
        have HO_4 := n0_
        have BK486 := n1_
        have HB := n2_
        clear n0_ n1_ n2_
        obtain ⟨Ao21, co21, eo21⟩ := Kd.R_slice HO_4.out
        (first | subst eo21 | (injection eo21 with f1_ f2_ f3_; have f4_ := f1_.symm; have f5_ := f3_.symm; clear f1_ f2_ f3_; subst f4_; subst f5_))
        have p490 : 0 ≤ (0 : Int) := (by omega)
        have q490 : 0 < (t487.length : Int) := of_decide_eq_true (by first | (with_reducible assumption) | assumption)
        obtain ⟨ad490, e490, hx490_0⟩ := Kd.at_string (Kd.R_reads' HO_4.out).2.2 0 p490 q490
        cases e490
        have qi490 : (0 < t487.length) = True := eq_true (by omega)
        (try rw [show ((0 : Int)).toNat = 0 from rfl] at hx490_0)
        (try rw [Addr.add_zero'] at hx490_0)
        replace p490 := eq_true p490
        replace q490 := eq_true q490
        have p492 : 0 ≤ (1 : Int) := (by omega)
        have q492 : 1 < (t487.length : Int) := of_decide_eq_true (by first | (with_reducible assumption) | assumption)
        obtain ⟨ad492, e492, hx492_0⟩ := Kd.at_string (Kd.R_reads' HO_4.out).2.2 1 p492 q492
        obtain rfl : ad490 = ad492 := (by injection e492)
        (try simp only [show (1 : Int).toNat = 1 from rfl, Nat.reduceMul, Nat.reduceEqDiff, Go.Addr.add, ↓reduceIte] at hx492_0)
        have qi492 : (1 < t487.length) = True := eq_true (by omega)
        (try rw [show ((1 : Int)).toNat = 1 from rfl] at hx492_0)
        replace p492 := eq_true p492
        replace q492 := eq_true q492
        have p494 : 0 ≤ (2 : Int) := (by omega)
        have q494 : 2 < (t487.length : Int) := of_decide_eq_true (by first | (with_reducible assumption) | assumption)
        obtain ⟨ad494, e494, hx494_0⟩ := Kd.at_string (Kd.R_reads' HO_4.out).2.2 2 p494 q494
        obtain rfl : ad490 = ad494 := (by injection e494)
        (try simp only [show (2 : Int).toNat = 2 from rfl, Nat.reduceMul, Nat.reduceEqDiff, Go.Addr.add, ↓reduceIte] at hx494_0)
        have qi494 : (2 < t487.length) = True := eq_true (by omega)
        (try rw [show ((2 : Int)).toNat = 2 from rfl] at hx494_0)
        replace p494 := eq_true p494
        replace q494 := eq_true q494
        have p496 : 0 ≤ (3 : Int) := (by omega)
        have q496 : 3 < (t487.length : Int) := of_decide_eq_true (by first | (with_reducible assumption) | assumption)
        obtain ⟨ad496, e496, hx496_0⟩ := Kd.at_string (Kd.R_reads' HO_4.out).2.2 3 p496 q496
        obtain rfl : ad490 = ad496 := (by injection e496)
        (try simp only [show (3 : Int).toNat = 3 from rfl, Nat.reduceMul, Nat.reduceEqDiff, Go.Addr.add, ↓reduceIte] at hx496_0)
        have qi496 : (3 < t487.length) = True := eq_true (by omega)
        (try rw [show ((3 : Int)).toNat = 3 from rfl] at hx496_0)
        replace p496 := eq_true p496
        replace q496 := eq_true q496
        refine start_ (n := 19) (S := fun w' => w'.cell? ad490 = some (.string (rdOf ByteArray.empty t487 0)) ∧ w'.cell? ⟨ad490.block, ad490.off + 1, none⟩ = some (.string (rdOf ByteArray.empty t487 1)) ∧ w'.cell? ⟨ad490.block, ad490.off + 2, none⟩ = some (.string (rdOf ByteArray.empty t487 2)) ∧ w'.cell? ⟨ad490.block, ad490.off + 3, none⟩ = some (.string (rdOf ByteArray.empty t487 3))) (ds := []) #[false, false, false, false, false, false, false, false, false, false, false, false, false, false, false, false, false, false, false] (by kernel_rfl) rfl rfl ⟨hx490_0, hx492_0, hx494_0, hx496_0⟩ (fun hHeld => ?_); refine with_tabW spec_doParse.tab4 spec_doParse.bits4 (fun HT_ HW_ => ?_)
        generalize wc.drew = w20 at HO_4 BK486 HB hx490_0 hx492_0 hx494_0 hx496_0 hHeld ⊢
        refine pu_ 0 17 19 1 ?_
        refine pu_ 1 18 19 3 ?_
        refine pu_ 4 21 19 19 ?_
        refine pu_ 5 22 19 51 ?_
        refine pu_ 8 25 19 307 ?_
        refine pu_ 9 26 19 819 ?_
        refine pu_ 12 29 19 4915 ?_
        refine pu_ 13 30 19 13107 ?_
        refine tk_ 2 19 19 13111 hHeld ?_
        refine tk_ 6 23 19 13175 hHeld ?_
        refine tk_ 10 27 19 14199 hHeld ?_
        refine tk_ 14 31 19 30583 hHeld ?_
        refine join_ (σ := Nat) 1 (pm_ 19 262143) (fun s_ => [(20, .int .i64 t491), (24, .int .i64 t493), (28, .int .i64 t495), (32, .int .i64 t497), (5, .pointer (some ⟨s_, 0, none⟩)), (33, .agg #[.int .i64 t491, .int .i64 t493, .int .i64 t495, .int .i64 t497])]) (fun s_ w' => (w'.cell? ad490 = some (.string (rdOf ByteArray.empty t487 0)) ∧ w'.cell? ⟨ad490.block, ad490.off + 1, none⟩ = some (.string (rdOf ByteArray.empty t487 1)) ∧ w'.cell? ⟨ad490.block, ad490.off + 2, none⟩ = some (.string (rdOf ByteArray.empty t487 2)) ∧ w'.cell? ⟨ad490.block, ad490.off + 3, none⟩ = some (.string (rdOf ByteArray.empty t487 3))) ∧ (Kd.R Kd.string 9 w' w.heap.size (fun _ => True) (.slice (some ad490) t487.length co21) t487) ∧ (w'.heap[gb486]? = some (.cells #[.int .i64 0, .int .i64 0, .int .i64 0, .int .i64 0] 25 (0, 0))) ∧ (w'.heap[s_]? = some (.cells #[.int .i64 0, .int .i64 0, .int .i64 0, .int .i64 0] 25 (0, 0))) ∧ (w.heap.size ≤ s_) ∧ (w.heap.size ≤ s_) ∧ (gb486 ≠ s_) ∧ (s_ ≠ gb486) ∧ (Below w.heap.size w w')) ?_ ?_
        rotate_left
        ·
         intro hJ3_7_11_15_17
         refine join_ (σ := Unit) 2 (pm_ 19 131071) (fun s_ => [(20, .int .i64 t491), (24, .int .i64 t493), (28, .int .i64 t495), (32, .int .i64 t497), (33, .agg #[.int .i64 t491, .int .i64 t493, .int .i64 t495, .int .i64 t497])]) (fun s_ w' => (w'.cell? ad490 = some (.string (rdOf ByteArray.empty t487 0)) ∧ w'.cell? ⟨ad490.block, ad490.off + 1, none⟩ = some (.string (rdOf ByteArray.empty t487 1)) ∧ w'.cell? ⟨ad490.block, ad490.off + 2, none⟩ = some (.string (rdOf ByteArray.empty t487 2)) ∧ w'.cell? ⟨ad490.block, ad490.off + 3, none⟩ = some (.string (rdOf ByteArray.empty t487 3))) ∧ (Kd.R Kd.string 9 w' w.heap.size (fun _ => True) (.slice (some ad490) t487.length co21) t487) ∧ (w'.heap[gb486]? = some (.cells #[.int .i64 0, .int .i64 0, .int .i64 0, .int .i64 0] 25 (0, 0))) ∧ (Below w.heap.size w w')) ?_ ?_
         rotate_left
         ·
          intro hJ3_7_11_15
          refine join_ (σ := Nat) 3 (pm_ 19 163839) (fun s_ => [(20, .int .i64 t491), (24, .int .i64 t493), (28, .int .i64 t495), (5, .pointer (some ⟨s_, 0, none⟩))]) (fun s_ w' => (w'.cell? ad490 = some (.string (rdOf ByteArray.empty t487 0)) ∧ w'.cell? ⟨ad490.block, ad490.off + 1, none⟩ = some (.string (rdOf ByteArray.empty t487 1)) ∧ w'.cell? ⟨ad490.block, ad490.off + 2, none⟩ = some (.string (rdOf ByteArray.empty t487 2)) ∧ w'.cell? ⟨ad490.block, ad490.off + 3, none⟩ = some (.string (rdOf ByteArray.empty t487 3))) ∧ (Kd.R Kd.string 9 w' w.heap.size (fun _ => True) (.slice (some ad490) t487.length co21) t487) ∧ (w'.heap[gb486]? = some (.cells #[.int .i64 0, .int .i64 0, .int .i64 0, .int .i64 0] 25 (0, 0))) ∧ (w'.heap[s_]? = some (.cells #[.int .i64 0, .int .i64 0, .int .i64 0, .int .i64 0] 25 (0, 0))) ∧ (w.heap.size ≤ s_) ∧ (w.heap.size ≤ s_) ∧ (gb486 ≠ s_) ∧ (s_ ≠ gb486) ∧ (Below w.heap.size w w')) ?_ ?_
          rotate_left
          ·
           intro hJ3_7_11_17
           refine join_ (σ := Unit) 4 (pm_ 19 32767) (fun s_ => [(20, .int .i64 t491), (24, .int .i64 t493), (28, .int .i64 t495)]) (fun s_ w' => (w'.cell? ad490 = some (.string (rdOf ByteArray.empty t487 0)) ∧ w'.cell? ⟨ad490.block, ad490.off + 1, none⟩ = some (.string (rdOf ByteArray.empty t487 1)) ∧ w'.cell? ⟨ad490.block, ad490.off + 2, none⟩ = some (.string (rdOf ByteArray.empty t487 2)) ∧ w'.cell? ⟨ad490.block, ad490.off + 3, none⟩ = some (.string (rdOf ByteArray.empty t487 3))) ∧ (Kd.R Kd.string 9 w' w.heap.size (fun _ => True) (.slice (some ad490) t487.length co21) t487) ∧ (w'.heap[gb486]? = some (.cells #[.int .i64 0, .int .i64 0, .int .i64 0, .int .i64 0] 25 (0, 0))) ∧ (Below w.heap.size w w')) ?_ ?_
           rotate_left
           ·
            intro hJ3_7_11
            refine join_ (σ := Nat) 4 (pm_ 19 161791) (fun s_ => [(20, .int .i64 t491), (24, .int .i64 t493), (5, .pointer (some ⟨s_, 0, none⟩))]) (fun s_ w' => (w'.cell? ad490 = some (.string (rdOf ByteArray.empty t487 0)) ∧ w'.cell? ⟨ad490.block, ad490.off + 1, none⟩ = some (.string (rdOf ByteArray.empty t487 1)) ∧ w'.cell? ⟨ad490.block, ad490.off + 2, none⟩ = some (.string (rdOf ByteArray.empty t487 2)) ∧ w'.cell? ⟨ad490.block, ad490.off + 3, none⟩ = some (.string (rdOf ByteArray.empty t487 3))) ∧ (Kd.R Kd.string 9 w' w.heap.size (fun _ => True) (.slice (some ad490) t487.length co21) t487) ∧ (w'.heap[gb486]? = some (.cells #[.int .i64 0, .int .i64 0, .int .i64 0, .int .i64 0] 25 (0, 0))) ∧ (w'.heap[s_]? = some (.cells #[.int .i64 0, .int .i64 0, .int .i64 0, .int .i64 0] 25 (0, 0))) ∧ (w.heap.size ≤ s_) ∧ (w.heap.size ≤ s_) ∧ (gb486 ≠ s_) ∧ (s_ ≠ gb486) ∧ (Below w.heap.size w w')) ?_ ?_
            rotate_left
            ·
             intro hJ3_7_17
             refine join_ (σ := Unit) 5 (pm_ 19 30719) (fun s_ => [(20, .int .i64 t491), (24, .int .i64 t493)]) (fun s_ w' => (w'.cell? ad490 = some (.string (rdOf ByteArray.empty t487 0)) ∧ w'.cell? ⟨ad490.block, ad490.off + 1, none⟩ = some (.string (rdOf ByteArray.empty t487 1)) ∧ w'.cell? ⟨ad490.block, ad490.off + 2, none⟩ = some (.string (rdOf ByteArray.empty t487 2)) ∧ w'.cell? ⟨ad490.block, ad490.off + 3, none⟩ = some (.string (rdOf ByteArray.empty t487 3))) ∧ (Kd.R Kd.string 9 w' w.heap.size (fun _ => True) (.slice (some ad490) t487.length co21) t487) ∧ (w'.heap[gb486]? = some (.cells #[.int .i64 0, .int .i64 0, .int .i64 0, .int .i64 0] 25 (0, 0))) ∧ (Below w.heap.size w w')) ?_ ?_
             rotate_left
             ·
              intro hJ3_7
              refine join_ (σ := Nat) 5 (pm_ 19 161663) (fun s_ => [(20, .int .i64 t491), (5, .pointer (some ⟨s_, 0, none⟩))]) (fun s_ w' => (w'.cell? ad490 = some (.string (rdOf ByteArray.empty t487 0)) ∧ w'.cell? ⟨ad490.block, ad490.off + 1, none⟩ = some (.string (rdOf ByteArray.empty t487 1)) ∧ w'.cell? ⟨ad490.block, ad490.off + 2, none⟩ = some (.string (rdOf ByteArray.empty t487 2)) ∧ w'.cell? ⟨ad490.block, ad490.off + 3, none⟩ = some (.string (rdOf ByteArray.empty t487 3))) ∧ (Kd.R Kd.string 9 w' w.heap.size (fun _ => True) (.slice (some ad490) t487.length co21) t487) ∧ (w'.heap[gb486]? = some (.cells #[.int .i64 0, .int .i64 0, .int .i64 0, .int .i64 0] 25 (0, 0))) ∧ (w'.heap[s_]? = some (.cells #[.int .i64 0, .int .i64 0, .int .i64 0, .int .i64 0] 25 (0, 0))) ∧ (w.heap.size ≤ s_) ∧ (w.heap.size ≤ s_) ∧ (gb486 ≠ s_) ∧ (s_ ≠ gb486) ∧ (Below w.heap.size w w')) ?_ ?_
              rotate_left
              ·
               intro hJ3_17
               refine join_ (σ := Unit) 6 (pm_ 19 30591) (fun s_ => [(20, .int .i64 t491)]) (fun s_ w' => (w'.cell? ad490 = some (.string (rdOf ByteArray.empty t487 0)) ∧ w'.cell? ⟨ad490.block, ad490.off + 1, none⟩ = some (.string (rdOf ByteArray.empty t487 1)) ∧ w'.cell? ⟨ad490.block, ad490.off + 2, none⟩ = some (.string (rdOf ByteArray.empty t487 2)) ∧ w'.cell? ⟨ad490.block, ad490.off + 3, none⟩ = some (.string (rdOf ByteArray.empty t487 3))) ∧ (Kd.R Kd.string 9 w' w.heap.size (fun _ => True) (.slice (some ad490) t487.length co21) t487) ∧ (w'.heap[gb486]? = some (.cells #[.int .i64 0, .int .i64 0, .int .i64 0, .int .i64 0] 25 (0, 0))) ∧ (Below w.heap.size w w')) ?_ ?_
               rotate_left
               ·
                intro hJ3
                refine join_ (σ := Nat) 6 (pm_ 19 161655) (fun s_ => [(5, .pointer (some ⟨s_, 0, none⟩))]) (fun s_ w' => (w'.cell? ad490 = some (.string (rdOf ByteArray.empty t487 0)) ∧ w'.cell? ⟨ad490.block, ad490.off + 1, none⟩ = some (.string (rdOf ByteArray.empty t487 1)) ∧ w'.cell? ⟨ad490.block, ad490.off + 2, none⟩ = some (.string (rdOf ByteArray.empty t487 2)) ∧ w'.cell? ⟨ad490.block, ad490.off + 3, none⟩ = some (.string (rdOf ByteArray.empty t487 3))) ∧ (Kd.R Kd.string 9 w' w.heap.size (fun _ => True) (.slice (some ad490) t487.length co21) t487) ∧ (w'.heap[gb486]? = some (.cells #[.int .i64 0, .int .i64 0, .int .i64 0, .int .i64 0] 25 (0, 0))) ∧ (w'.heap[s_]? = some (.cells #[.int .i64 0, .int .i64 0, .int .i64 0, .int .i64 0] 25 (0, 0))) ∧ (w.heap.size ≤ s_) ∧ (w.heap.size ≤ s_) ∧ (gb486 ≠ s_) ∧ (s_ ≠ gb486) ∧ (Below w.heap.size w w')) ?_ ?_
                rotate_left
                ·
                 intro hJ17
                 refine two_ (i := 3) (j := 17) (Ni := some 20) (Nj := some 5) (pm_ 19 30591) (pm_ 19 161655) rfl rfl rfl rfl (two_of HT_.out (by kernel_rfl)) (by decide) (by decide) (fun K hK => ?_) (fun K hK => ?_)
                 ·
                  skip
                  refine goes_ Tryz.func66 (by kernel_rfl) rfl #[.string (rdOf ByteArray.empty t487 0)] (by rfl) rfl rfl (by (try simp only [List.map_toArray, List.map_cons, List.map_nil]); first | done | rfl | (simp only [List.length_drop, List.length_take]; rfl)) ?_
                  with_reducible refine (spec_l1Read.calls kj2 (rdOf ByteArray.empty t487 0) t491 _ A11.out).mono ?_
                  rintro e w' ⟨rfl, ⟨nd, rfl⟩⟩
                  refine ⟨_, rfl, ?_⟩
                  refine hK.out _ _ ⟨hHeld.1, hHeld.2.1, hHeld.2.2.1, hHeld.2.2.2⟩ (fun hHeld => ?_)
                  clear hK K
                  refine norm_ (a' := ?_) ?_ ?_
                  rotate_left
                  ·
                   show Act.put _ (some 20) _ = _
                   simp only [Act.put, List.setIfInBounds_toArray, List.set_cons_zero, List.set_cons_succ, i64_w, i32_w]
                   rfl
                  exact norm_ (by first | (simp only [putAll, Act.put, List.setIfInBounds_toArray, List.set_cons_zero, List.set_cons_succ]; done) | (simp only [putAll, Act.put, List.setIfInBounds_toArray, List.set_cons_zero, List.set_cons_succ]; rfl)) (hJ3 () _ ⟨hHeld, (by (with_reducible repeat (first | apply Kd.R_alloc | apply Kd.R_drewN | apply Kd.R_drew)); exact HO_4.out), bk_, bw_⟩)
                 ·
                  skip
                  refine box_step ?hg (N := 5) ?hd (cs := #[.int .i64 0, .int .i64 0, .int .i64 0, .int .i64 0]) (t := 25) ?hr ?_; (case hd => rfl); (case hg => rfl); (case hr => first | (go_simp; done) | (go_simp; rfl))
                  intro gb498 hg w22 hbox hb
                  have HS0_ := (hb.cell (World.block_lt_of_cell? _ _ (hHeld.1))).trans (hHeld.1)
                  have HS1_ := (hb.cell (World.block_lt_of_cell? _ _ (hHeld.2.1))).trans (hHeld.2.1)
                  have HS2_ := (hb.cell (World.block_lt_of_cell? _ _ (hHeld.2.2.1))).trans (hHeld.2.2.1)
                  have HS3_ := (hb.cell (World.block_lt_of_cell? _ _ (hHeld.2.2.2))).trans (hHeld.2.2.2)
                  have n0_ := Aside0.mk (Kd.R_below (by (with_reducible repeat (first | apply Kd.R_alloc | apply Kd.R_drewN | apply Kd.R_drew)); exact HO_4.out) hb)
                  have n1_ := Aside0.mk (bb_ BK486.out hb)
                  have n2_ := Aside0.mk (below_step bw_ hb)
                  have n3_ := Aside0.mk (hbox)
                  have n4_ := Aside0.mk (bz_ (w := w) hg)
                  have n5_ := Aside0.mk (bz_ (w := w) hg)
                  have n6_ := Aside0.mk (nl_ BK486.out hg)
                  have n7_ := Aside0.mk (ng_ BK486.out hg)
                  clear HO_4
                  clear BK486
                  clear HB
                  have HO_4 := n0_
                  have BK486 := n1_
                  have HB := n2_
                  have BK498 := n3_
                  have GW498 := n4_
                  have GE498 := n5_
                  have NB486_498 := n6_
                  have NB498_486 := n7_
                  clear n0_ n1_ n2_ n3_ n4_ n5_ n6_ n7_
                  clear hb hbox hg
                  refine hK.out _ _ ⟨HS0_, HS1_, HS2_, HS3_⟩ (fun hHeld => ?_)
                  clear hK K
                  refine norm_ (a' := ?_) ?_ ?_
                  rotate_left
                  ·
                   show Act.put _ (some 5) _ = _
                   simp only [Act.put, List.setIfInBounds_toArray, List.set_cons_zero, List.set_cons_succ, i64_w, i32_w]
                   rfl
                  exact norm_ (by first | (simp only [putAll, Act.put, List.setIfInBounds_toArray, List.set_cons_zero, List.set_cons_succ]; done) | (simp only [putAll, Act.put, List.setIfInBounds_toArray, List.set_cons_zero, List.set_cons_succ]; rfl)) (hJ17 (gb498) _ ⟨hHeld, (by (with_reducible repeat (first | apply Kd.R_alloc | apply Kd.R_drewN | apply Kd.R_drew)); exact HO_4.out), bk_, bk_, GW498.out, GE498.out, NB486_498.out, NB498_486.out, bw_⟩)
                ·
                 skip
                 rintro gb498 w23 ⟨hS_, h0_, h1_, h2_, h3_, h4_, h5_, h6_, h7_⟩
                 have n0_ : Aside0 (Kd.R Kd.string 9 w23 w.heap.size (fun _ => True) (.slice (some ad490) t487.length co21) t487) := ⟨h0_⟩
                 have n1_ : Aside0 (w23.heap[gb486]? = some (.cells #[.int .i64 0, .int .i64 0, .int .i64 0, .int .i64 0] 25 (0, 0))) := ⟨h1_⟩
                 have n2_ : Aside0 (w23.heap[gb498]? = some (.cells #[.int .i64 0, .int .i64 0, .int .i64 0, .int .i64 0] 25 (0, 0))) := ⟨h2_⟩
                 have n3_ : Aside0 (w.heap.size ≤ gb498) := ⟨h3_⟩
                 have n4_ : Aside0 (w.heap.size ≤ gb498) := ⟨h4_⟩
                 have n5_ : Aside0 (gb486 ≠ gb498) := ⟨h5_⟩
                 have n6_ : Aside0 (gb498 ≠ gb486) := ⟨h6_⟩
                 have n7_ : Aside0 (Below w.heap.size w w23) := ⟨h7_⟩
                 clear HO_4
                 clear BK486
                 clear HB
                 clear h0_ h1_ h2_ h3_ h4_ h5_ h6_ h7_
                 have HO_4 := n0_
                 have BK486 := n1_
                 have BK498 := n2_
                 have GW498 := n3_
                 have GE498 := n4_
                 have NB486_498 := n5_
                 have NB498_486 := n6_
                 have HB := n7_
                 clear n0_ n1_ n2_ n3_ n4_ n5_ n6_ n7_
                 have hHeld : w23.cell? ad490 = some (.string (rdOf ByteArray.empty t487 0)) ∧ w23.cell? ⟨ad490.block, ad490.off + 1, none⟩ = some (.string (rdOf ByteArray.empty t487 1)) ∧ w23.cell? ⟨ad490.block, ad490.off + 2, none⟩ = some (.string (rdOf ByteArray.empty t487 2)) ∧ w23.cell? ⟨ad490.block, ad490.off + 3, none⟩ = some (.string (rdOf ByteArray.empty t487 3)) := hS_
                 refine norm_ (a' := ?_) ?_ ?_
                 rotate_left
                 ·
                  simp only [putAll, Act.put, List.setIfInBounds_toArray, List.set_cons_zero, List.set_cons_succ]
                  rfl
                 refine one_ (i := 3) (N := some 20) (pm_ 19 161663) rfl rfl (one_of HT_.out (by kernel_rfl)) (by decide) (fun K hK => ?_)
                 refine goes_ Tryz.func66 (by kernel_rfl) rfl #[.string (rdOf ByteArray.empty t487 0)] (by rfl) rfl rfl (by (try simp only [List.map_toArray, List.map_cons, List.map_nil]); first | done | rfl | (simp only [List.length_drop, List.length_take]; rfl)) ?_
                 with_reducible refine (spec_l1Read.calls kj2 (rdOf ByteArray.empty t487 0) t491 _ A11.out).mono ?_
                 rintro e w' ⟨rfl, ⟨nd, rfl⟩⟩
                 refine ⟨_, rfl, ?_⟩
                 refine hK.out _ _ ⟨hHeld.1, hHeld.2.1, hHeld.2.2.1, hHeld.2.2.2⟩ (fun hHeld => ?_)
                 clear hK K
                 refine norm_ (a' := ?_) ?_ ?_
                 rotate_left
                 ·
                  show Act.put _ (some 20) _ = _
                  simp only [Act.put, List.setIfInBounds_toArray, List.set_cons_zero, List.set_cons_succ, i64_w, i32_w]
                  rfl
                 exact norm_ (by first | (simp only [putAll, Act.put, List.setIfInBounds_toArray, List.set_cons_zero, List.set_cons_succ]; done) | (simp only [putAll, Act.put, List.setIfInBounds_toArray, List.set_cons_zero, List.set_cons_succ]; rfl)) (hJ3_17 (gb498) _ ⟨hHeld, (by (with_reducible repeat (first | apply Kd.R_alloc | apply Kd.R_drewN | apply Kd.R_drew)); exact HO_4.out), bk_, bk_, GW498.out, GE498.out, NB486_498.out, NB498_486.out, bw_⟩)
               ·
                skip
                rintro _ w22 ⟨hS_, h0_, h1_, h2_⟩
                have n0_ : Aside0 (Kd.R Kd.string 9 w22 w.heap.size (fun _ => True) (.slice (some ad490) t487.length co21) t487) := ⟨h0_⟩
                have n1_ : Aside0 (w22.heap[gb486]? = some (.cells #[.int .i64 0, .int .i64 0, .int .i64 0, .int .i64 0] 25 (0, 0))) := ⟨h1_⟩
                have n2_ : Aside0 (Below w.heap.size w w22) := ⟨h2_⟩
                clear HO_4
                clear BK486
                clear HB
                clear h0_ h1_ h2_
                have HO_4 := n0_
                have BK486 := n1_
                have HB := n2_
                clear n0_ n1_ n2_
                have hHeld : w22.cell? ad490 = some (.string (rdOf ByteArray.empty t487 0)) ∧ w22.cell? ⟨ad490.block, ad490.off + 1, none⟩ = some (.string (rdOf ByteArray.empty t487 1)) ∧ w22.cell? ⟨ad490.block, ad490.off + 2, none⟩ = some (.string (rdOf ByteArray.empty t487 2)) ∧ w22.cell? ⟨ad490.block, ad490.off + 3, none⟩ = some (.string (rdOf ByteArray.empty t487 3)) := hS_
                refine norm_ (a' := ?_) ?_ ?_
                rotate_left
                ·
                 simp only [putAll, Act.put, List.setIfInBounds_toArray, List.set_cons_zero, List.set_cons_succ]
                 rfl
                refine two_ (i := 7) (j := 17) (Ni := some 24) (Nj := some 5) (pm_ 19 30719) (pm_ 19 161663) rfl rfl rfl rfl (two_of HT_.out (by kernel_rfl)) (by decide) (by decide) (fun K hK => ?_) (fun K hK => ?_)
                ·
                 skip
                 refine goes_ Tryz.func66 (by kernel_rfl) rfl #[.string (rdOf ByteArray.empty t487 1)] (by rfl) rfl rfl (by (try simp only [List.map_toArray, List.map_cons, List.map_nil]); first | done | rfl | (simp only [List.length_drop, List.length_take]; rfl)) ?_
                 with_reducible refine (spec_l1Read.calls kj2 (rdOf ByteArray.empty t487 1) t493 _ A13.out).mono ?_
                 rintro e w' ⟨rfl, ⟨nd, rfl⟩⟩
                 refine ⟨_, rfl, ?_⟩
                 refine hK.out _ _ ⟨hHeld.1, hHeld.2.1, hHeld.2.2.1, hHeld.2.2.2⟩ (fun hHeld => ?_)
                 clear hK K
                 refine norm_ (a' := ?_) ?_ ?_
                 rotate_left
                 ·
                  show Act.put _ (some 24) _ = _
                  simp only [Act.put, List.setIfInBounds_toArray, List.set_cons_zero, List.set_cons_succ, i64_w, i32_w]
                  rfl
                 exact norm_ (by first | (simp only [putAll, Act.put, List.setIfInBounds_toArray, List.set_cons_zero, List.set_cons_succ]; done) | (simp only [putAll, Act.put, List.setIfInBounds_toArray, List.set_cons_zero, List.set_cons_succ]; rfl)) (hJ3_7 () _ ⟨hHeld, (by (with_reducible repeat (first | apply Kd.R_alloc | apply Kd.R_drewN | apply Kd.R_drew)); exact HO_4.out), bk_, bw_⟩)
                ·
                 skip
                 refine box_step ?hg (N := 5) ?hd (cs := #[.int .i64 0, .int .i64 0, .int .i64 0, .int .i64 0]) (t := 25) ?hr ?_; (case hd => rfl); (case hg => rfl); (case hr => first | (go_simp; done) | (go_simp; rfl))
                 intro gb498 hg w23 hbox hb
                 have HS0_ := (hb.cell (World.block_lt_of_cell? _ _ (hHeld.1))).trans (hHeld.1)
                 have HS1_ := (hb.cell (World.block_lt_of_cell? _ _ (hHeld.2.1))).trans (hHeld.2.1)
                 have HS2_ := (hb.cell (World.block_lt_of_cell? _ _ (hHeld.2.2.1))).trans (hHeld.2.2.1)
                 have HS3_ := (hb.cell (World.block_lt_of_cell? _ _ (hHeld.2.2.2))).trans (hHeld.2.2.2)
                 have n0_ := Aside0.mk (Kd.R_below (by (with_reducible repeat (first | apply Kd.R_alloc | apply Kd.R_drewN | apply Kd.R_drew)); exact HO_4.out) hb)
                 have n1_ := Aside0.mk (bb_ BK486.out hb)
                 have n2_ := Aside0.mk (below_step bw_ hb)
                 have n3_ := Aside0.mk (hbox)
                 have n4_ := Aside0.mk (bz_ (w := w) hg)
                 have n5_ := Aside0.mk (bz_ (w := w) hg)
                 have n6_ := Aside0.mk (nl_ BK486.out hg)
                 have n7_ := Aside0.mk (ng_ BK486.out hg)
                 clear HO_4
                 clear BK486
                 clear HB
                 have HO_4 := n0_
                 have BK486 := n1_
                 have HB := n2_
                 have BK498 := n3_
                 have GW498 := n4_
                 have GE498 := n5_
                 have NB486_498 := n6_
                 have NB498_486 := n7_
                 clear n0_ n1_ n2_ n3_ n4_ n5_ n6_ n7_
                 clear hb hbox hg
                 refine hK.out _ _ ⟨HS0_, HS1_, HS2_, HS3_⟩ (fun hHeld => ?_)
                 clear hK K
                 refine norm_ (a' := ?_) ?_ ?_
                 rotate_left
                 ·
                  show Act.put _ (some 5) _ = _
                  simp only [Act.put, List.setIfInBounds_toArray, List.set_cons_zero, List.set_cons_succ, i64_w, i32_w]
                  rfl
                 exact norm_ (by first | (simp only [putAll, Act.put, List.setIfInBounds_toArray, List.set_cons_zero, List.set_cons_succ]; done) | (simp only [putAll, Act.put, List.setIfInBounds_toArray, List.set_cons_zero, List.set_cons_succ]; rfl)) (hJ3_17 (gb498) _ ⟨hHeld, (by (with_reducible repeat (first | apply Kd.R_alloc | apply Kd.R_drewN | apply Kd.R_drew)); exact HO_4.out), bk_, bk_, GW498.out, GE498.out, NB486_498.out, NB498_486.out, bw_⟩)
              ·
               skip
               rintro gb498 w23 ⟨hS_, h0_, h1_, h2_, h3_, h4_, h5_, h6_, h7_⟩
               have n0_ : Aside0 (Kd.R Kd.string 9 w23 w.heap.size (fun _ => True) (.slice (some ad490) t487.length co21) t487) := ⟨h0_⟩
               have n1_ : Aside0 (w23.heap[gb486]? = some (.cells #[.int .i64 0, .int .i64 0, .int .i64 0, .int .i64 0] 25 (0, 0))) := ⟨h1_⟩
               have n2_ : Aside0 (w23.heap[gb498]? = some (.cells #[.int .i64 0, .int .i64 0, .int .i64 0, .int .i64 0] 25 (0, 0))) := ⟨h2_⟩
               have n3_ : Aside0 (w.heap.size ≤ gb498) := ⟨h3_⟩
               have n4_ : Aside0 (w.heap.size ≤ gb498) := ⟨h4_⟩
               have n5_ : Aside0 (gb486 ≠ gb498) := ⟨h5_⟩
               have n6_ : Aside0 (gb498 ≠ gb486) := ⟨h6_⟩
               have n7_ : Aside0 (Below w.heap.size w w23) := ⟨h7_⟩
               clear HO_4
               clear BK486
               clear HB
               clear h0_ h1_ h2_ h3_ h4_ h5_ h6_ h7_
               have HO_4 := n0_
               have BK486 := n1_
               have BK498 := n2_
               have GW498 := n3_
               have GE498 := n4_
               have NB486_498 := n5_
               have NB498_486 := n6_
               have HB := n7_
               clear n0_ n1_ n2_ n3_ n4_ n5_ n6_ n7_
               have hHeld : w23.cell? ad490 = some (.string (rdOf ByteArray.empty t487 0)) ∧ w23.cell? ⟨ad490.block, ad490.off + 1, none⟩ = some (.string (rdOf ByteArray.empty t487 1)) ∧ w23.cell? ⟨ad490.block, ad490.off + 2, none⟩ = some (.string (rdOf ByteArray.empty t487 2)) ∧ w23.cell? ⟨ad490.block, ad490.off + 3, none⟩ = some (.string (rdOf ByteArray.empty t487 3)) := hS_
               refine norm_ (a' := ?_) ?_ ?_
               rotate_left
               ·
                simp only [putAll, Act.put, List.setIfInBounds_toArray, List.set_cons_zero, List.set_cons_succ]
                rfl
               refine one_ (i := 7) (N := some 24) (pm_ 19 161791) rfl rfl (one_of HT_.out (by kernel_rfl)) (by decide) (fun K hK => ?_)
               refine goes_ Tryz.func66 (by kernel_rfl) rfl #[.string (rdOf ByteArray.empty t487 1)] (by rfl) rfl rfl (by (try simp only [List.map_toArray, List.map_cons, List.map_nil]); first | done | rfl | (simp only [List.length_drop, List.length_take]; rfl)) ?_
               with_reducible refine (spec_l1Read.calls kj2 (rdOf ByteArray.empty t487 1) t493 _ A13.out).mono ?_
               rintro e w' ⟨rfl, ⟨nd, rfl⟩⟩
               refine ⟨_, rfl, ?_⟩
               refine hK.out _ _ ⟨hHeld.1, hHeld.2.1, hHeld.2.2.1, hHeld.2.2.2⟩ (fun hHeld => ?_)
               clear hK K
               refine norm_ (a' := ?_) ?_ ?_
               rotate_left
               ·
                show Act.put _ (some 24) _ = _
                simp only [Act.put, List.setIfInBounds_toArray, List.set_cons_zero, List.set_cons_succ, i64_w, i32_w]
                rfl
               exact norm_ (by first | (simp only [putAll, Act.put, List.setIfInBounds_toArray, List.set_cons_zero, List.set_cons_succ]; done) | (simp only [putAll, Act.put, List.setIfInBounds_toArray, List.set_cons_zero, List.set_cons_succ]; rfl)) (hJ3_7_17 (gb498) _ ⟨hHeld, (by (with_reducible repeat (first | apply Kd.R_alloc | apply Kd.R_drewN | apply Kd.R_drew)); exact HO_4.out), bk_, bk_, GW498.out, GE498.out, NB486_498.out, NB498_486.out, bw_⟩)
             ·
              skip
              rintro _ w22 ⟨hS_, h0_, h1_, h2_⟩
              have n0_ : Aside0 (Kd.R Kd.string 9 w22 w.heap.size (fun _ => True) (.slice (some ad490) t487.length co21) t487) := ⟨h0_⟩
              have n1_ : Aside0 (w22.heap[gb486]? = some (.cells #[.int .i64 0, .int .i64 0, .int .i64 0, .int .i64 0] 25 (0, 0))) := ⟨h1_⟩
              have n2_ : Aside0 (Below w.heap.size w w22) := ⟨h2_⟩
              clear HO_4
              clear BK486
              clear HB
              clear h0_ h1_ h2_
              have HO_4 := n0_
              have BK486 := n1_
              have HB := n2_
              clear n0_ n1_ n2_
              have hHeld : w22.cell? ad490 = some (.string (rdOf ByteArray.empty t487 0)) ∧ w22.cell? ⟨ad490.block, ad490.off + 1, none⟩ = some (.string (rdOf ByteArray.empty t487 1)) ∧ w22.cell? ⟨ad490.block, ad490.off + 2, none⟩ = some (.string (rdOf ByteArray.empty t487 2)) ∧ w22.cell? ⟨ad490.block, ad490.off + 3, none⟩ = some (.string (rdOf ByteArray.empty t487 3)) := hS_
              refine norm_ (a' := ?_) ?_ ?_
              rotate_left
              ·
               simp only [putAll, Act.put, List.setIfInBounds_toArray, List.set_cons_zero, List.set_cons_succ]
               rfl
              refine two_ (i := 11) (j := 17) (Ni := some 28) (Nj := some 5) (pm_ 19 32767) (pm_ 19 161791) rfl rfl rfl rfl (two_of HT_.out (by kernel_rfl)) (by decide) (by decide) (fun K hK => ?_) (fun K hK => ?_)
              ·
               skip
               refine goes_ Tryz.func66 (by kernel_rfl) rfl #[.string (rdOf ByteArray.empty t487 2)] (by rfl) rfl rfl (by (try simp only [List.map_toArray, List.map_cons, List.map_nil]); first | done | rfl | (simp only [List.length_drop, List.length_take]; rfl)) ?_
               with_reducible refine (spec_l1Read.calls kj2 (rdOf ByteArray.empty t487 2) t495 _ A15.out).mono ?_
               rintro e w' ⟨rfl, ⟨nd, rfl⟩⟩
               refine ⟨_, rfl, ?_⟩
               refine hK.out _ _ ⟨hHeld.1, hHeld.2.1, hHeld.2.2.1, hHeld.2.2.2⟩ (fun hHeld => ?_)
               clear hK K
               refine norm_ (a' := ?_) ?_ ?_
               rotate_left
               ·
                show Act.put _ (some 28) _ = _
                simp only [Act.put, List.setIfInBounds_toArray, List.set_cons_zero, List.set_cons_succ, i64_w, i32_w]
                rfl
               exact norm_ (by first | (simp only [putAll, Act.put, List.setIfInBounds_toArray, List.set_cons_zero, List.set_cons_succ]; done) | (simp only [putAll, Act.put, List.setIfInBounds_toArray, List.set_cons_zero, List.set_cons_succ]; rfl)) (hJ3_7_11 () _ ⟨hHeld, (by (with_reducible repeat (first | apply Kd.R_alloc | apply Kd.R_drewN | apply Kd.R_drew)); exact HO_4.out), bk_, bw_⟩)
              ·
               skip
               refine box_step ?hg (N := 5) ?hd (cs := #[.int .i64 0, .int .i64 0, .int .i64 0, .int .i64 0]) (t := 25) ?hr ?_; (case hd => rfl); (case hg => rfl); (case hr => first | (go_simp; done) | (go_simp; rfl))
               intro gb498 hg w23 hbox hb
               have HS0_ := (hb.cell (World.block_lt_of_cell? _ _ (hHeld.1))).trans (hHeld.1)
               have HS1_ := (hb.cell (World.block_lt_of_cell? _ _ (hHeld.2.1))).trans (hHeld.2.1)
               have HS2_ := (hb.cell (World.block_lt_of_cell? _ _ (hHeld.2.2.1))).trans (hHeld.2.2.1)
               have HS3_ := (hb.cell (World.block_lt_of_cell? _ _ (hHeld.2.2.2))).trans (hHeld.2.2.2)
               have n0_ := Aside0.mk (Kd.R_below (by (with_reducible repeat (first | apply Kd.R_alloc | apply Kd.R_drewN | apply Kd.R_drew)); exact HO_4.out) hb)
               have n1_ := Aside0.mk (bb_ BK486.out hb)
               have n2_ := Aside0.mk (below_step bw_ hb)
               have n3_ := Aside0.mk (hbox)
               have n4_ := Aside0.mk (bz_ (w := w) hg)
               have n5_ := Aside0.mk (bz_ (w := w) hg)
               have n6_ := Aside0.mk (nl_ BK486.out hg)
               have n7_ := Aside0.mk (ng_ BK486.out hg)
               clear HO_4
               clear BK486
               clear HB
               have HO_4 := n0_
               have BK486 := n1_
               have HB := n2_
               have BK498 := n3_
               have GW498 := n4_
               have GE498 := n5_
               have NB486_498 := n6_
               have NB498_486 := n7_
               clear n0_ n1_ n2_ n3_ n4_ n5_ n6_ n7_
               clear hb hbox hg
               refine hK.out _ _ ⟨HS0_, HS1_, HS2_, HS3_⟩ (fun hHeld => ?_)
               clear hK K
               refine norm_ (a' := ?_) ?_ ?_
               rotate_left
               ·
                show Act.put _ (some 5) _ = _
                simp only [Act.put, List.setIfInBounds_toArray, List.set_cons_zero, List.set_cons_succ, i64_w, i32_w]
                rfl
               exact norm_ (by first | (simp only [putAll, Act.put, List.setIfInBounds_toArray, List.set_cons_zero, List.set_cons_succ]; done) | (simp only [putAll, Act.put, List.setIfInBounds_toArray, List.set_cons_zero, List.set_cons_succ]; rfl)) (hJ3_7_17 (gb498) _ ⟨hHeld, (by (with_reducible repeat (first | apply Kd.R_alloc | apply Kd.R_drewN | apply Kd.R_drew)); exact HO_4.out), bk_, bk_, GW498.out, GE498.out, NB486_498.out, NB498_486.out, bw_⟩)
            ·
             skip
             rintro gb498 w23 ⟨hS_, h0_, h1_, h2_, h3_, h4_, h5_, h6_, h7_⟩
             have n0_ : Aside0 (Kd.R Kd.string 9 w23 w.heap.size (fun _ => True) (.slice (some ad490) t487.length co21) t487) := ⟨h0_⟩
             have n1_ : Aside0 (w23.heap[gb486]? = some (.cells #[.int .i64 0, .int .i64 0, .int .i64 0, .int .i64 0] 25 (0, 0))) := ⟨h1_⟩
             have n2_ : Aside0 (w23.heap[gb498]? = some (.cells #[.int .i64 0, .int .i64 0, .int .i64 0, .int .i64 0] 25 (0, 0))) := ⟨h2_⟩
             have n3_ : Aside0 (w.heap.size ≤ gb498) := ⟨h3_⟩
             have n4_ : Aside0 (w.heap.size ≤ gb498) := ⟨h4_⟩
             have n5_ : Aside0 (gb486 ≠ gb498) := ⟨h5_⟩
             have n6_ : Aside0 (gb498 ≠ gb486) := ⟨h6_⟩
             have n7_ : Aside0 (Below w.heap.size w w23) := ⟨h7_⟩
             clear HO_4
             clear BK486
             clear HB
             clear h0_ h1_ h2_ h3_ h4_ h5_ h6_ h7_
             have HO_4 := n0_
             have BK486 := n1_
             have BK498 := n2_
             have GW498 := n3_
             have GE498 := n4_
             have NB486_498 := n5_
             have NB498_486 := n6_
             have HB := n7_
             clear n0_ n1_ n2_ n3_ n4_ n5_ n6_ n7_
             have hHeld : w23.cell? ad490 = some (.string (rdOf ByteArray.empty t487 0)) ∧ w23.cell? ⟨ad490.block, ad490.off + 1, none⟩ = some (.string (rdOf ByteArray.empty t487 1)) ∧ w23.cell? ⟨ad490.block, ad490.off + 2, none⟩ = some (.string (rdOf ByteArray.empty t487 2)) ∧ w23.cell? ⟨ad490.block, ad490.off + 3, none⟩ = some (.string (rdOf ByteArray.empty t487 3)) := hS_
             refine norm_ (a' := ?_) ?_ ?_
             rotate_left
             ·
              simp only [putAll, Act.put, List.setIfInBounds_toArray, List.set_cons_zero, List.set_cons_succ]
              rfl
             refine one_ (i := 11) (N := some 28) (pm_ 19 163839) rfl rfl (one_of HT_.out (by kernel_rfl)) (by decide) (fun K hK => ?_)
             refine goes_ Tryz.func66 (by kernel_rfl) rfl #[.string (rdOf ByteArray.empty t487 2)] (by rfl) rfl rfl (by (try simp only [List.map_toArray, List.map_cons, List.map_nil]); first | done | rfl | (simp only [List.length_drop, List.length_take]; rfl)) ?_
             with_reducible refine (spec_l1Read.calls kj2 (rdOf ByteArray.empty t487 2) t495 _ A15.out).mono ?_
             rintro e w' ⟨rfl, ⟨nd, rfl⟩⟩
             refine ⟨_, rfl, ?_⟩
             refine hK.out _ _ ⟨hHeld.1, hHeld.2.1, hHeld.2.2.1, hHeld.2.2.2⟩ (fun hHeld => ?_)
             clear hK K
             refine norm_ (a' := ?_) ?_ ?_
             rotate_left
             ·
              show Act.put _ (some 28) _ = _
              simp only [Act.put, List.setIfInBounds_toArray, List.set_cons_zero, List.set_cons_succ, i64_w, i32_w]
              rfl
             exact norm_ (by first | (simp only [putAll, Act.put, List.setIfInBounds_toArray, List.set_cons_zero, List.set_cons_succ]; done) | (simp only [putAll, Act.put, List.setIfInBounds_toArray, List.set_cons_zero, List.set_cons_succ]; rfl)) (hJ3_7_11_17 (gb498) _ ⟨hHeld, (by (with_reducible repeat (first | apply Kd.R_alloc | apply Kd.R_drewN | apply Kd.R_drew)); exact HO_4.out), bk_, bk_, GW498.out, GE498.out, NB486_498.out, NB498_486.out, bw_⟩)
           ·
            skip
            rintro _ w22 ⟨hS_, h0_, h1_, h2_⟩
            have n0_ : Aside0 (Kd.R Kd.string 9 w22 w.heap.size (fun _ => True) (.slice (some ad490) t487.length co21) t487) := ⟨h0_⟩
            have n1_ : Aside0 (w22.heap[gb486]? = some (.cells #[.int .i64 0, .int .i64 0, .int .i64 0, .int .i64 0] 25 (0, 0))) := ⟨h1_⟩
            have n2_ : Aside0 (Below w.heap.size w w22) := ⟨h2_⟩
            clear HO_4
            clear BK486
            clear HB
            clear h0_ h1_ h2_
            have HO_4 := n0_
            have BK486 := n1_
            have HB := n2_
            clear n0_ n1_ n2_
            have hHeld : w22.cell? ad490 = some (.string (rdOf ByteArray.empty t487 0)) ∧ w22.cell? ⟨ad490.block, ad490.off + 1, none⟩ = some (.string (rdOf ByteArray.empty t487 1)) ∧ w22.cell? ⟨ad490.block, ad490.off + 2, none⟩ = some (.string (rdOf ByteArray.empty t487 2)) ∧ w22.cell? ⟨ad490.block, ad490.off + 3, none⟩ = some (.string (rdOf ByteArray.empty t487 3)) := hS_
            refine norm_ (a' := ?_) ?_ ?_
            rotate_left
            ·
             simp only [putAll, Act.put, List.setIfInBounds_toArray, List.set_cons_zero, List.set_cons_succ]
             rfl
            refine two_ (i := 15) (j := 17) (Ni := some 32) (Nj := some 5) (pm_ 19 65535) (pm_ 19 163839) rfl rfl rfl rfl (two_of HT_.out (by kernel_rfl)) (by decide) (by decide) (fun K hK => ?_) (fun K hK => ?_)
            ·
             skip
             refine goes_ Tryz.func66 (by kernel_rfl) rfl #[.string (rdOf ByteArray.empty t487 3)] (by rfl) rfl rfl (by (try simp only [List.map_toArray, List.map_cons, List.map_nil]); first | done | rfl | (simp only [List.length_drop, List.length_take]; rfl)) ?_
             with_reducible refine (spec_l1Read.calls kj2 (rdOf ByteArray.empty t487 3) t497 _ A17.out).mono ?_
             rintro e w' ⟨rfl, ⟨nd, rfl⟩⟩
             refine ⟨_, rfl, ?_⟩
             refine hK.out _ _ ⟨hHeld.1, hHeld.2.1, hHeld.2.2.1, hHeld.2.2.2⟩ (fun hHeld => ?_)
             clear hK K
             refine norm_ (a' := ?_) ?_ ?_
             rotate_left
             ·
              show Act.put _ (some 32) _ = _
              simp only [Act.put, List.setIfInBounds_toArray, List.set_cons_zero, List.set_cons_succ, i64_w, i32_w]
              rfl
             refine pu_ 16 33 19 131071 ?_
             exact norm_ (by first | (simp only [putAll, Act.put, List.setIfInBounds_toArray, List.set_cons_zero, List.set_cons_succ]; done) | (simp only [putAll, Act.put, List.setIfInBounds_toArray, List.set_cons_zero, List.set_cons_succ]; rfl)) (hJ3_7_11_15 () _ ⟨hHeld, (by (with_reducible repeat (first | apply Kd.R_alloc | apply Kd.R_drewN | apply Kd.R_drew)); exact HO_4.out), bk_, bw_⟩)
            ·
             skip
             refine box_step ?hg (N := 5) ?hd (cs := #[.int .i64 0, .int .i64 0, .int .i64 0, .int .i64 0]) (t := 25) ?hr ?_; (case hd => rfl); (case hg => rfl); (case hr => first | (go_simp; done) | (go_simp; rfl))
             intro gb498 hg w23 hbox hb
             have HS0_ := (hb.cell (World.block_lt_of_cell? _ _ (hHeld.1))).trans (hHeld.1)
             have HS1_ := (hb.cell (World.block_lt_of_cell? _ _ (hHeld.2.1))).trans (hHeld.2.1)
             have HS2_ := (hb.cell (World.block_lt_of_cell? _ _ (hHeld.2.2.1))).trans (hHeld.2.2.1)
             have HS3_ := (hb.cell (World.block_lt_of_cell? _ _ (hHeld.2.2.2))).trans (hHeld.2.2.2)
             have n0_ := Aside0.mk (Kd.R_below (by (with_reducible repeat (first | apply Kd.R_alloc | apply Kd.R_drewN | apply Kd.R_drew)); exact HO_4.out) hb)
             have n1_ := Aside0.mk (bb_ BK486.out hb)
             have n2_ := Aside0.mk (below_step bw_ hb)
             have n3_ := Aside0.mk (hbox)
             have n4_ := Aside0.mk (bz_ (w := w) hg)
             have n5_ := Aside0.mk (bz_ (w := w) hg)
             have n6_ := Aside0.mk (nl_ BK486.out hg)
             have n7_ := Aside0.mk (ng_ BK486.out hg)
             clear HO_4
             clear BK486
             clear HB
             have HO_4 := n0_
             have BK486 := n1_
             have HB := n2_
             have BK498 := n3_
             have GW498 := n4_
             have GE498 := n5_
             have NB486_498 := n6_
             have NB498_486 := n7_
             clear n0_ n1_ n2_ n3_ n4_ n5_ n6_ n7_
             clear hb hbox hg
             refine hK.out _ _ ⟨HS0_, HS1_, HS2_, HS3_⟩ (fun hHeld => ?_)
             clear hK K
             refine norm_ (a' := ?_) ?_ ?_
             rotate_left
             ·
              show Act.put _ (some 5) _ = _
              simp only [Act.put, List.setIfInBounds_toArray, List.set_cons_zero, List.set_cons_succ, i64_w, i32_w]
              rfl
             exact norm_ (by first | (simp only [putAll, Act.put, List.setIfInBounds_toArray, List.set_cons_zero, List.set_cons_succ]; done) | (simp only [putAll, Act.put, List.setIfInBounds_toArray, List.set_cons_zero, List.set_cons_succ]; rfl)) (hJ3_7_11_17 (gb498) _ ⟨hHeld, (by (with_reducible repeat (first | apply Kd.R_alloc | apply Kd.R_drewN | apply Kd.R_drew)); exact HO_4.out), bk_, bk_, GW498.out, GE498.out, NB486_498.out, NB498_486.out, bw_⟩)
          ·
           skip
           rintro gb498 w23 ⟨hS_, h0_, h1_, h2_, h3_, h4_, h5_, h6_, h7_⟩
           have n0_ : Aside0 (Kd.R Kd.string 9 w23 w.heap.size (fun _ => True) (.slice (some ad490) t487.length co21) t487) := ⟨h0_⟩
           have n1_ : Aside0 (w23.heap[gb486]? = some (.cells #[.int .i64 0, .int .i64 0, .int .i64 0, .int .i64 0] 25 (0, 0))) := ⟨h1_⟩
           have n2_ : Aside0 (w23.heap[gb498]? = some (.cells #[.int .i64 0, .int .i64 0, .int .i64 0, .int .i64 0] 25 (0, 0))) := ⟨h2_⟩
           have n3_ : Aside0 (w.heap.size ≤ gb498) := ⟨h3_⟩
           have n4_ : Aside0 (w.heap.size ≤ gb498) := ⟨h4_⟩
           have n5_ : Aside0 (gb486 ≠ gb498) := ⟨h5_⟩
           have n6_ : Aside0 (gb498 ≠ gb486) := ⟨h6_⟩
           have n7_ : Aside0 (Below w.heap.size w w23) := ⟨h7_⟩
           clear HO_4
           clear BK486
           clear HB
           clear h0_ h1_ h2_ h3_ h4_ h5_ h6_ h7_
           have HO_4 := n0_
           have BK486 := n1_
           have BK498 := n2_
           have GW498 := n3_
           have GE498 := n4_
           have NB486_498 := n5_
           have NB498_486 := n6_
           have HB := n7_
           clear n0_ n1_ n2_ n3_ n4_ n5_ n6_ n7_
           have hHeld : w23.cell? ad490 = some (.string (rdOf ByteArray.empty t487 0)) ∧ w23.cell? ⟨ad490.block, ad490.off + 1, none⟩ = some (.string (rdOf ByteArray.empty t487 1)) ∧ w23.cell? ⟨ad490.block, ad490.off + 2, none⟩ = some (.string (rdOf ByteArray.empty t487 2)) ∧ w23.cell? ⟨ad490.block, ad490.off + 3, none⟩ = some (.string (rdOf ByteArray.empty t487 3)) := hS_
           refine norm_ (a' := ?_) ?_ ?_
           rotate_left
           ·
            simp only [putAll, Act.put, List.setIfInBounds_toArray, List.set_cons_zero, List.set_cons_succ]
            rfl
           refine one_ (i := 15) (N := some 32) (pm_ 19 196607) rfl rfl (one_of HT_.out (by kernel_rfl)) (by decide) (fun K hK => ?_)
           refine goes_ Tryz.func66 (by kernel_rfl) rfl #[.string (rdOf ByteArray.empty t487 3)] (by rfl) rfl rfl (by (try simp only [List.map_toArray, List.map_cons, List.map_nil]); first | done | rfl | (simp only [List.length_drop, List.length_take]; rfl)) ?_
           with_reducible refine (spec_l1Read.calls kj2 (rdOf ByteArray.empty t487 3) t497 _ A17.out).mono ?_
           rintro e w' ⟨rfl, ⟨nd, rfl⟩⟩
           refine ⟨_, rfl, ?_⟩
           refine hK.out _ _ ⟨hHeld.1, hHeld.2.1, hHeld.2.2.1, hHeld.2.2.2⟩ (fun hHeld => ?_)
           clear hK K
           refine norm_ (a' := ?_) ?_ ?_
           rotate_left
           ·
            show Act.put _ (some 32) _ = _
            simp only [Act.put, List.setIfInBounds_toArray, List.set_cons_zero, List.set_cons_succ, i64_w, i32_w]
            rfl
           refine pu_ 16 33 19 262143 ?_
           exact norm_ (by first | (simp only [putAll, Act.put, List.setIfInBounds_toArray, List.set_cons_zero, List.set_cons_succ]; done) | (simp only [putAll, Act.put, List.setIfInBounds_toArray, List.set_cons_zero, List.set_cons_succ]; rfl)) (hJ3_7_11_15_17 (gb498) _ ⟨hHeld, (by (with_reducible repeat (first | apply Kd.R_alloc | apply Kd.R_drewN | apply Kd.R_drew)); exact HO_4.out), bk_, bk_, GW498.out, GE498.out, NB486_498.out, NB498_486.out, bw_⟩)
         ·
          skip
          rintro _ w22 ⟨hS_, h0_, h1_, h2_⟩
          have n0_ : Aside0 (Kd.R Kd.string 9 w22 w.heap.size (fun _ => True) (.slice (some ad490) t487.length co21) t487) := ⟨h0_⟩
          have n1_ : Aside0 (w22.heap[gb486]? = some (.cells #[.int .i64 0, .int .i64 0, .int .i64 0, .int .i64 0] 25 (0, 0))) := ⟨h1_⟩
          have n2_ : Aside0 (Below w.heap.size w w22) := ⟨h2_⟩
          clear HO_4
          clear BK486
          clear HB
          clear h0_ h1_ h2_
          have HO_4 := n0_
          have BK486 := n1_
          have HB := n2_
          clear n0_ n1_ n2_
          have hHeld : w22.cell? ad490 = some (.string (rdOf ByteArray.empty t487 0)) ∧ w22.cell? ⟨ad490.block, ad490.off + 1, none⟩ = some (.string (rdOf ByteArray.empty t487 1)) ∧ w22.cell? ⟨ad490.block, ad490.off + 2, none⟩ = some (.string (rdOf ByteArray.empty t487 2)) ∧ w22.cell? ⟨ad490.block, ad490.off + 3, none⟩ = some (.string (rdOf ByteArray.empty t487 3)) := hS_
          refine norm_ (a' := ?_) ?_ ?_
          rotate_left
          ·
           simp only [putAll, Act.put, List.setIfInBounds_toArray, List.set_cons_zero, List.set_cons_succ]
           rfl
          refine one_ (i := 17) (N := some 5) (pm_ 19 262143) rfl rfl (one_of HT_.out (by kernel_rfl)) (by decide) (fun K hK => ?_)
          refine box_step ?hg (N := 5) ?hd (cs := #[.int .i64 0, .int .i64 0, .int .i64 0, .int .i64 0]) (t := 25) ?hr ?_; (case hd => rfl); (case hg => rfl); (case hr => first | (go_simp; done) | (go_simp; rfl))
          intro gb498 hg w23 hbox hb
          have HS0_ := (hb.cell (World.block_lt_of_cell? _ _ (hHeld.1))).trans (hHeld.1)
          have HS1_ := (hb.cell (World.block_lt_of_cell? _ _ (hHeld.2.1))).trans (hHeld.2.1)
          have HS2_ := (hb.cell (World.block_lt_of_cell? _ _ (hHeld.2.2.1))).trans (hHeld.2.2.1)
          have HS3_ := (hb.cell (World.block_lt_of_cell? _ _ (hHeld.2.2.2))).trans (hHeld.2.2.2)
          have n0_ := Aside0.mk (Kd.R_below (by (with_reducible repeat (first | apply Kd.R_alloc | apply Kd.R_drewN | apply Kd.R_drew)); exact HO_4.out) hb)
          have n1_ := Aside0.mk (bb_ BK486.out hb)
          have n2_ := Aside0.mk (below_step bw_ hb)
          have n3_ := Aside0.mk (hbox)
          have n4_ := Aside0.mk (bz_ (w := w) hg)
          have n5_ := Aside0.mk (bz_ (w := w) hg)
          have n6_ := Aside0.mk (nl_ BK486.out hg)
          have n7_ := Aside0.mk (ng_ BK486.out hg)
          clear HO_4
          clear BK486
          clear HB
          have HO_4 := n0_
          have BK486 := n1_
          have HB := n2_
          have BK498 := n3_
          have GW498 := n4_
          have GE498 := n5_
          have NB486_498 := n6_
          have NB498_486 := n7_
          clear n0_ n1_ n2_ n3_ n4_ n5_ n6_ n7_
          clear hb hbox hg
          refine hK.out _ _ ⟨HS0_, HS1_, HS2_, HS3_⟩ (fun hHeld => ?_)
          clear hK K
          refine norm_ (a' := ?_) ?_ ?_
          rotate_left
          ·
           show Act.put _ (some 5) _ = _
           simp only [Act.put, List.setIfInBounds_toArray, List.set_cons_zero, List.set_cons_succ, i64_w, i32_w]
           rfl
          exact norm_ (by first | (simp only [putAll, Act.put, List.setIfInBounds_toArray, List.set_cons_zero, List.set_cons_succ]; done) | (simp only [putAll, Act.put, List.setIfInBounds_toArray, List.set_cons_zero, List.set_cons_succ]; rfl)) (hJ3_7_11_15_17 (gb498) _ ⟨hHeld, (by (with_reducible repeat (first | apply Kd.R_alloc | apply Kd.R_drewN | apply Kd.R_drew)); exact HO_4.out), bk_, bk_, GW498.out, GE498.out, NB486_498.out, NB498_486.out, bw_⟩)
        rintro gb498 w23 ⟨hS_, h0_, h1_, h2_, h3_, h4_, h5_, h6_, h7_⟩
        have n0_ : Aside0 (Kd.R Kd.string 9 w23 w.heap.size (fun _ => True) (.slice (some ad490) t487.length co21) t487) := ⟨h0_⟩
        have n1_ : Aside0 (w23.heap[gb486]? = some (.cells #[.int .i64 0, .int .i64 0, .int .i64 0, .int .i64 0] 25 (0, 0))) := ⟨h1_⟩
        have n2_ : Aside0 (w23.heap[gb498]? = some (.cells #[.int .i64 0, .int .i64 0, .int .i64 0, .int .i64 0] 25 (0, 0))) := ⟨h2_⟩
        have n3_ : Aside0 (w.heap.size ≤ gb498) := ⟨h3_⟩
        have n4_ : Aside0 (w.heap.size ≤ gb498) := ⟨h4_⟩
        have n5_ : Aside0 (gb486 ≠ gb498) := ⟨h5_⟩
        have n6_ : Aside0 (gb498 ≠ gb486) := ⟨h6_⟩
        have n7_ : Aside0 (Below w.heap.size w w23) := ⟨h7_⟩
        clear HO_4
        clear BK486
        clear HB
        clear h0_ h1_ h2_ h3_ h4_ h5_ h6_ h7_
        have HO_4 := n0_
        have BK486 := n1_
        have BK498 := n2_
        have GW498 := n3_
        have GE498 := n4_
        have NB486_498 := n5_
        have NB498_486 := n6_
        have HB := n7_
        clear n0_ n1_ n2_ n3_ n4_ n5_ n6_ n7_
        have hHeld : w23.cell? ad490 = some (.string (rdOf ByteArray.empty t487 0)) ∧ w23.cell? ⟨ad490.block, ad490.off + 1, none⟩ = some (.string (rdOf ByteArray.empty t487 1)) ∧ w23.cell? ⟨ad490.block, ad490.off + 2, none⟩ = some (.string (rdOf ByteArray.empty t487 2)) ∧ w23.cell? ⟨ad490.block, ad490.off + 3, none⟩ = some (.string (rdOf ByteArray.empty t487 3)) := hS_
        refine norm_ (a' := ?_) ?_ ?_
        rotate_left
        ·
         simp only [putAll, Act.put, List.setIfInBounds_toArray, List.set_cons_zero, List.set_cons_succ]
         rfl
        refine one_ (i := 18) (N := none) (pm_ 19 524287) rfl rfl (one_of HT_.out (by kernel_rfl)) (by decide) (fun K hK => ?_)
        have hs24 : w23.cell? ⟨gb498, 0, none⟩ = some (.int .i64 0) := (blk_cell BK498.out 0).trans rfl
        have hfs24 := blk_frozen BK498.out 0
        have hns24_0 := NB486_498.out
        have hms24_0 := NB498_486.out
        have hs25 : w23.cell? ⟨gb498, 1, none⟩ = some (.int .i64 0) := (blk_cell BK498.out 1).trans rfl
        have hfs25 := blk_frozen BK498.out 1
        have hns25_0 := NB486_498.out
        have hms25_0 := NB498_486.out
        have hs26 : w23.cell? ⟨gb498, 2, none⟩ = some (.int .i64 0) := (blk_cell BK498.out 2).trans rfl
        have hfs26 := blk_frozen BK498.out 2
        have hns26_0 := NB486_498.out
        have hms26_0 := NB498_486.out
        have hs27 : w23.cell? ⟨gb498, 3, none⟩ = some (.int .i64 0) := (blk_cell BK498.out 3).trans rfl
        have hfs27 := blk_frozen BK498.out 3
        have hns27_0 := NB486_498.out
        have hms27_0 := NB498_486.out
        refine skip_ (w1 := ?_) (by rfl) rfl ?_ ?_
        rotate_left
        ·
         go_simp
         rfl
        refine hK.out _ _ ⟨((cell_far (p := ⟨gb498, _, none⟩) (by first | exact Kd.own_blk (Kd.R_ne HO_4.out BK498.out (by decide)) | (rw [add_block]; exact Kd.own_blk (Kd.R_ne HO_4.out BK498.out (by decide))) | (show (Addr.add _ _).block ≠ _; rw [add_block]; exact Kd.own_blk (Kd.R_ne HO_4.out BK498.out (by decide))) | (dsimp only; exact Kd.own_blk (Kd.R_ne HO_4.out BK498.out (by decide)))) _).trans (((cell_far (p := ⟨gb498, _, none⟩) (by first | exact Kd.own_blk (Kd.R_ne HO_4.out BK498.out (by decide)) | (rw [add_block]; exact Kd.own_blk (Kd.R_ne HO_4.out BK498.out (by decide))) | (show (Addr.add _ _).block ≠ _; rw [add_block]; exact Kd.own_blk (Kd.R_ne HO_4.out BK498.out (by decide))) | (dsimp only; exact Kd.own_blk (Kd.R_ne HO_4.out BK498.out (by decide)))) _).trans (((cell_far (p := ⟨gb498, _, none⟩) (by first | exact Kd.own_blk (Kd.R_ne HO_4.out BK498.out (by decide)) | (rw [add_block]; exact Kd.own_blk (Kd.R_ne HO_4.out BK498.out (by decide))) | (show (Addr.add _ _).block ≠ _; rw [add_block]; exact Kd.own_blk (Kd.R_ne HO_4.out BK498.out (by decide))) | (dsimp only; exact Kd.own_blk (Kd.R_ne HO_4.out BK498.out (by decide)))) _).trans (((cell_far (p := ⟨gb498, _, none⟩) (by first | exact Kd.own_blk (Kd.R_ne HO_4.out BK498.out (by decide)) | (rw [add_block]; exact Kd.own_blk (Kd.R_ne HO_4.out BK498.out (by decide))) | (show (Addr.add _ _).block ≠ _; rw [add_block]; exact Kd.own_blk (Kd.R_ne HO_4.out BK498.out (by decide))) | (dsimp only; exact Kd.own_blk (Kd.R_ne HO_4.out BK498.out (by decide)))) _).trans (hHeld.1)))))))), ((cell_far (p := ⟨gb498, _, none⟩) (by first | exact Kd.own_blk (Kd.R_ne HO_4.out BK498.out (by decide)) | (rw [add_block]; exact Kd.own_blk (Kd.R_ne HO_4.out BK498.out (by decide))) | (show (Addr.add _ _).block ≠ _; rw [add_block]; exact Kd.own_blk (Kd.R_ne HO_4.out BK498.out (by decide))) | (dsimp only; exact Kd.own_blk (Kd.R_ne HO_4.out BK498.out (by decide)))) _).trans (((cell_far (p := ⟨gb498, _, none⟩) (by first | exact Kd.own_blk (Kd.R_ne HO_4.out BK498.out (by decide)) | (rw [add_block]; exact Kd.own_blk (Kd.R_ne HO_4.out BK498.out (by decide))) | (show (Addr.add _ _).block ≠ _; rw [add_block]; exact Kd.own_blk (Kd.R_ne HO_4.out BK498.out (by decide))) | (dsimp only; exact Kd.own_blk (Kd.R_ne HO_4.out BK498.out (by decide)))) _).trans (((cell_far (p := ⟨gb498, _, none⟩) (by first | exact Kd.own_blk (Kd.R_ne HO_4.out BK498.out (by decide)) | (rw [add_block]; exact Kd.own_blk (Kd.R_ne HO_4.out BK498.out (by decide))) | (show (Addr.add _ _).block ≠ _; rw [add_block]; exact Kd.own_blk (Kd.R_ne HO_4.out BK498.out (by decide))) | (dsimp only; exact Kd.own_blk (Kd.R_ne HO_4.out BK498.out (by decide)))) _).trans (((cell_far (p := ⟨gb498, _, none⟩) (by first | exact Kd.own_blk (Kd.R_ne HO_4.out BK498.out (by decide)) | (rw [add_block]; exact Kd.own_blk (Kd.R_ne HO_4.out BK498.out (by decide))) | (show (Addr.add _ _).block ≠ _; rw [add_block]; exact Kd.own_blk (Kd.R_ne HO_4.out BK498.out (by decide))) | (dsimp only; exact Kd.own_blk (Kd.R_ne HO_4.out BK498.out (by decide)))) _).trans (hHeld.2.1)))))))), ((cell_far (p := ⟨gb498, _, none⟩) (by first | exact Kd.own_blk (Kd.R_ne HO_4.out BK498.out (by decide)) | (rw [add_block]; exact Kd.own_blk (Kd.R_ne HO_4.out BK498.out (by decide))) | (show (Addr.add _ _).block ≠ _; rw [add_block]; exact Kd.own_blk (Kd.R_ne HO_4.out BK498.out (by decide))) | (dsimp only; exact Kd.own_blk (Kd.R_ne HO_4.out BK498.out (by decide)))) _).trans (((cell_far (p := ⟨gb498, _, none⟩) (by first | exact Kd.own_blk (Kd.R_ne HO_4.out BK498.out (by decide)) | (rw [add_block]; exact Kd.own_blk (Kd.R_ne HO_4.out BK498.out (by decide))) | (show (Addr.add _ _).block ≠ _; rw [add_block]; exact Kd.own_blk (Kd.R_ne HO_4.out BK498.out (by decide))) | (dsimp only; exact Kd.own_blk (Kd.R_ne HO_4.out BK498.out (by decide)))) _).trans (((cell_far (p := ⟨gb498, _, none⟩) (by first | exact Kd.own_blk (Kd.R_ne HO_4.out BK498.out (by decide)) | (rw [add_block]; exact Kd.own_blk (Kd.R_ne HO_4.out BK498.out (by decide))) | (show (Addr.add _ _).block ≠ _; rw [add_block]; exact Kd.own_blk (Kd.R_ne HO_4.out BK498.out (by decide))) | (dsimp only; exact Kd.own_blk (Kd.R_ne HO_4.out BK498.out (by decide)))) _).trans (((cell_far (p := ⟨gb498, _, none⟩) (by first | exact Kd.own_blk (Kd.R_ne HO_4.out BK498.out (by decide)) | (rw [add_block]; exact Kd.own_blk (Kd.R_ne HO_4.out BK498.out (by decide))) | (show (Addr.add _ _).block ≠ _; rw [add_block]; exact Kd.own_blk (Kd.R_ne HO_4.out BK498.out (by decide))) | (dsimp only; exact Kd.own_blk (Kd.R_ne HO_4.out BK498.out (by decide)))) _).trans (hHeld.2.2.1)))))))), ((cell_far (p := ⟨gb498, _, none⟩) (by first | exact Kd.own_blk (Kd.R_ne HO_4.out BK498.out (by decide)) | (rw [add_block]; exact Kd.own_blk (Kd.R_ne HO_4.out BK498.out (by decide))) | (show (Addr.add _ _).block ≠ _; rw [add_block]; exact Kd.own_blk (Kd.R_ne HO_4.out BK498.out (by decide))) | (dsimp only; exact Kd.own_blk (Kd.R_ne HO_4.out BK498.out (by decide)))) _).trans (((cell_far (p := ⟨gb498, _, none⟩) (by first | exact Kd.own_blk (Kd.R_ne HO_4.out BK498.out (by decide)) | (rw [add_block]; exact Kd.own_blk (Kd.R_ne HO_4.out BK498.out (by decide))) | (show (Addr.add _ _).block ≠ _; rw [add_block]; exact Kd.own_blk (Kd.R_ne HO_4.out BK498.out (by decide))) | (dsimp only; exact Kd.own_blk (Kd.R_ne HO_4.out BK498.out (by decide)))) _).trans (((cell_far (p := ⟨gb498, _, none⟩) (by first | exact Kd.own_blk (Kd.R_ne HO_4.out BK498.out (by decide)) | (rw [add_block]; exact Kd.own_blk (Kd.R_ne HO_4.out BK498.out (by decide))) | (show (Addr.add _ _).block ≠ _; rw [add_block]; exact Kd.own_blk (Kd.R_ne HO_4.out BK498.out (by decide))) | (dsimp only; exact Kd.own_blk (Kd.R_ne HO_4.out BK498.out (by decide)))) _).trans (((cell_far (p := ⟨gb498, _, none⟩) (by first | exact Kd.own_blk (Kd.R_ne HO_4.out BK498.out (by decide)) | (rw [add_block]; exact Kd.own_blk (Kd.R_ne HO_4.out BK498.out (by decide))) | (show (Addr.add _ _).block ≠ _; rw [add_block]; exact Kd.own_blk (Kd.R_ne HO_4.out BK498.out (by decide))) | (dsimp only; exact Kd.own_blk (Kd.R_ne HO_4.out BK498.out (by decide)))) _).trans (hHeld.2.2.2))))))))⟩ (fun hHeld => ?_)
        clear hK K
        refine done_ (done_of HT_.out (by kernel_rfl)) ?_
        have hnb28 := NB498_486.out
        have hnc28 := NB486_498.out
        obtain ⟨hcz29_0, hcz29_1, hcz29_2, hcz29_3, hfz29_0, hfz29_1, hfz29_2, hfz29_3⟩ := four_ BK498.out
        have H := HC_.out
        clear HC_
        by_cases c19 : t499 = true
        ·
         subst c19
         rw [if_pos rfl] at H
         simp only [Option.some.injEq, Prod.mk.injEq] at H
         obtain ⟨rfl, rfl, rfl, rfl, rfl⟩ := H
         try go_wp2_with (first | ((with_reducible refine gate_callee (f := 32) rfl ?_); refine gl_ (some 35) Tryz.func32 #[.agg #[.int .i64 t491, .int .i64 t493, .int .i64 t495, .int .i64 t497]] ?_; (with_reducible refine (spec_doGood.calls t491 t493 t495 t497 true _ A18.out).mono ?_); rintro e w30 ⟨rfl, hb⟩; refine ⟨_, rfl, ?_⟩; have n0_ := Aside0.mk (Kd.R_below (by (with_reducible repeat (first | apply Kd.R_alloc | apply Kd.R_drewN | apply Kd.R_drew)); exact (Kd.R_mono (Kd.R_far (p := ⟨gb498, 3, none⟩) (Kd.R_far (p := ⟨gb498, 2, none⟩) (Kd.R_far (p := ⟨gb498, 1, none⟩) (Kd.R_far (p := ⟨gb498, 0, none⟩) (Kd.R_types HO_4.out BK498.out (by decide)) (fun _ hk => hk.2) (.int .i64 t491)) (fun _ hk => hk.2) (.int .i64 t493)) (fun _ hk => hk.2) (.int .i64 t495)) (fun _ hk => hk.2) (.int .i64 t497)) (fun _ h_ => h_.1))) hb); have n1_ := Aside0.mk (blk_below (g := gb486) (o := .cells #[.int .i64 0, .int .i64 0, .int .i64 0, .int .i64 0] 25 (0, 0)) bf_ hb); have n2_ := Aside0.mk (blk_below (g := gb498) (o := .cells #[.int .i64 t491, .int .i64 t493, .int .i64 t495, .int .i64 t497] 25 (0, 0)) (by (with_reducible repeat (first | refine blk_drewN ?_ _ | refine blk_drew ?_ | refine blk_alloc ?_ _)); refine blk_put (cs := #[.int .i64 t491, .int .i64 t493, .int .i64 t495, .int .i64 0]) ?_ 3 _ rfl; (with_reducible repeat (first | refine blk_drewN ?_ _ | refine blk_drew ?_ | refine blk_alloc ?_ _)); refine blk_put (cs := #[.int .i64 t491, .int .i64 t493, .int .i64 0, .int .i64 0]) ?_ 2 _ rfl; (with_reducible repeat (first | refine blk_drewN ?_ _ | refine blk_drew ?_ | refine blk_alloc ?_ _)); refine blk_put (cs := #[.int .i64 t491, .int .i64 0, .int .i64 0, .int .i64 0]) ?_ 1 _ rfl; (with_reducible repeat (first | refine blk_drewN ?_ _ | refine blk_drew ?_ | refine blk_alloc ?_ _)); refine blk_put (cs := #[.int .i64 0, .int .i64 0, .int .i64 0, .int .i64 0]) ?_ 0 _ rfl; (with_reducible repeat (first | refine blk_drewN ?_ _ | refine blk_drew ?_ | refine blk_alloc ?_ _)); exact BK498.out) hb); have n3_ := Aside0.mk (below_step bw_ hb); clear HO_4; clear BK486; clear BK498; clear HB; have HO_4 := n0_; have BK486 := n1_; have BK498 := n2_; have HB := n3_; clear n0_ n1_ n2_ n3_; (try clear hb); (try clear hb2); (try clear hk); (try clear hi); obtain ⟨hcz31_0, hcz31_1, hcz31_2, hcz31_3, hfz31_0, hfz31_1, hfz31_2, hfz31_3⟩ := four_ BK498.out; obtain ⟨hcz32_0, hcz32_1, hcz32_2, hcz32_3, hfz32_0, hfz32_1, hfz32_2, hfz32_3⟩ := four_ BK486.out))
         refine bodyPost_ret (results_ct rfl _ _ gb486 25 #[.int .i64 t491, .int .i64 t493, .int .i64 t495, .int .i64 t497] (0, 0) _ rfl (by (with_reducible repeat (first | refine blk_drewN ?_ _ | refine blk_drew ?_ | refine blk_alloc ?_ _)); refine blk_put (cs := #[.int .i64 t491, .int .i64 t493, .int .i64 t495, .int .i64 0]) ?_ 3 _ rfl; (with_reducible repeat (first | refine blk_drewN ?_ _ | refine blk_drew ?_ | refine blk_alloc ?_ _)); refine blk_put (cs := #[.int .i64 t491, .int .i64 t493, .int .i64 0, .int .i64 0]) ?_ 2 _ rfl; (with_reducible repeat (first | refine blk_drewN ?_ _ | refine blk_drew ?_ | refine blk_alloc ?_ _)); refine blk_put (cs := #[.int .i64 t491, .int .i64 0, .int .i64 0, .int .i64 0]) ?_ 1 _ rfl; (with_reducible repeat (first | refine blk_drewN ?_ _ | refine blk_drew ?_ | refine blk_alloc ?_ _)); refine blk_put (cs := #[.int .i64 0, .int .i64 0, .int .i64 0, .int .i64 0]) ?_ 0 _ rfl; (with_reducible repeat (first | refine blk_drewN ?_ _ | refine blk_drew ?_ | refine blk_alloc ?_ _)); exact BK486.out) Tryz.underlying25 rfl (by kernel_rfl)) rfl ?_
         exact ⟨rt_, bw_⟩
        ·
         replace c19 := Bool.eq_false_iff.mpr c19
         subst c19
         rw [if_neg (show ¬ (false = true) by decide)] at H
         simp only [Option.some.injEq, Prod.mk.injEq] at H
         obtain ⟨rfl, rfl, rfl, rfl, rfl⟩ := H
         try go_wp2_with (first | ((with_reducible refine gate_callee (f := 32) rfl ?_); refine gl_ (some 35) Tryz.func32 #[.agg #[.int .i64 t491, .int .i64 t493, .int .i64 t495, .int .i64 t497]] ?_; (with_reducible refine (spec_doGood.calls t491 t493 t495 t497 false _ A18.out).mono ?_); rintro e w43 ⟨rfl, hb⟩; refine ⟨_, rfl, ?_⟩; have n0_ := Aside0.mk (Kd.R_below (by (with_reducible repeat (first | apply Kd.R_alloc | apply Kd.R_drewN | apply Kd.R_drew)); exact (Kd.R_mono (Kd.R_far (p := ⟨gb498, 3, none⟩) (Kd.R_far (p := ⟨gb498, 2, none⟩) (Kd.R_far (p := ⟨gb498, 1, none⟩) (Kd.R_far (p := ⟨gb498, 0, none⟩) (Kd.R_types HO_4.out BK498.out (by decide)) (fun _ hk => hk.2) (.int .i64 t491)) (fun _ hk => hk.2) (.int .i64 t493)) (fun _ hk => hk.2) (.int .i64 t495)) (fun _ hk => hk.2) (.int .i64 t497)) (fun _ h_ => h_.1))) hb); have n1_ := Aside0.mk (blk_below (g := gb486) (o := .cells #[.int .i64 0, .int .i64 0, .int .i64 0, .int .i64 0] 25 (0, 0)) bf_ hb); have n2_ := Aside0.mk (blk_below (g := gb498) (o := .cells #[.int .i64 t491, .int .i64 t493, .int .i64 t495, .int .i64 t497] 25 (0, 0)) (by (with_reducible repeat (first | refine blk_drewN ?_ _ | refine blk_drew ?_ | refine blk_alloc ?_ _)); refine blk_put (cs := #[.int .i64 t491, .int .i64 t493, .int .i64 t495, .int .i64 0]) ?_ 3 _ rfl; (with_reducible repeat (first | refine blk_drewN ?_ _ | refine blk_drew ?_ | refine blk_alloc ?_ _)); refine blk_put (cs := #[.int .i64 t491, .int .i64 t493, .int .i64 0, .int .i64 0]) ?_ 2 _ rfl; (with_reducible repeat (first | refine blk_drewN ?_ _ | refine blk_drew ?_ | refine blk_alloc ?_ _)); refine blk_put (cs := #[.int .i64 t491, .int .i64 0, .int .i64 0, .int .i64 0]) ?_ 1 _ rfl; (with_reducible repeat (first | refine blk_drewN ?_ _ | refine blk_drew ?_ | refine blk_alloc ?_ _)); refine blk_put (cs := #[.int .i64 0, .int .i64 0, .int .i64 0, .int .i64 0]) ?_ 0 _ rfl; (with_reducible repeat (first | refine blk_drewN ?_ _ | refine blk_drew ?_ | refine blk_alloc ?_ _)); exact BK498.out) hb); have n3_ := Aside0.mk (below_step bw_ hb); clear HO_4; clear BK486; clear BK498; clear HB; have HO_4 := n0_; have BK486 := n1_; have BK498 := n2_; have HB := n3_; clear n0_ n1_ n2_ n3_; (try clear hb); (try clear hb2); (try clear hk); (try clear hi); obtain ⟨hcz44_0, hcz44_1, hcz44_2, hcz44_3, hfz44_0, hfz44_1, hfz44_2, hfz44_3⟩ := four_ BK486.out))
         refine bodyPost_ret (results_ct rfl _ _ gb486 25 #[.int .i64 0, .int .i64 0, .int .i64 0, .int .i64 0] (0, 0) _ rfl (by (with_reducible repeat (first | refine blk_drewN ?_ _ | refine blk_drew ?_ | refine blk_alloc ?_ _)); refine blk_put (cs := #[.int .i64 0, .int .i64 0, .int .i64 0, .int .i64 0]) ?_ 3 _ rfl; (with_reducible repeat (first | refine blk_drewN ?_ _ | refine blk_drew ?_ | refine blk_alloc ?_ _)); refine blk_put (cs := #[.int .i64 0, .int .i64 0, .int .i64 0, .int .i64 0]) ?_ 2 _ rfl; (with_reducible repeat (first | refine blk_drewN ?_ _ | refine blk_drew ?_ | refine blk_alloc ?_ _)); refine blk_put (cs := #[.int .i64 0, .int .i64 0, .int .i64 0, .int .i64 0]) ?_ 1 _ rfl; (with_reducible repeat (first | refine blk_drewN ?_ _ | refine blk_drew ?_ | refine blk_alloc ?_ _)); refine blk_put (cs := #[.int .i64 0, .int .i64 0, .int .i64 0, .int .i64 0]) ?_ 0 _ rfl; (with_reducible repeat (first | refine blk_drewN ?_ _ | refine blk_drew ?_ | refine blk_alloc ?_ _)); exact BK486.out) Tryz.underlying25 rfl (by kernel_rfl)) rfl ?_
         exact ⟨rt_, bw_⟩
       ·
        rw [if_neg c16] at H
        exact absurd H (by simp)
      ·
       rw [if_neg c14] at H
       exact absurd H (by simp)
     ·
      rw [if_neg c12] at H
      exact absurd H (by simp)
    ·
     rw [if_neg c10] at H
     exact absurd H (by simp)

end Go.Proofs.YtajlcomankjcjadGreatDoor.PFnDogsChase
