-- Laid by a program of this session's (wip/gen/printp.sh): the functions that the law reaches, each with its walk.
import Derived.Test.YtfkieckkmcibbaaGreatDoorPFnRunnersRunx0
import Derived.Test.YtfkieckkmcibbaaGreatDoorPFnRunnersRunx2
import Derived.Test.YtfkieckkmcibbaaGreatDoorPFnRunnersRunx3
import Derived.Test.YtfkieckkmcibbaaGreatDoorPFnRunnersRunx7
namespace Go.Proofs.YtfkieckkmcibbaaGreatDoor.PFnRunnersRun
open Go.RowKit Go.Proofs.YtfkieckkmcibbaaGreatDoorW.PrintWords Go.Proofs.YtfkieckkmcibbaaGreatDoorW.PrintLast Go.Proofs.YtfkieckkmcibbaaGreatDoorW.PrintMore
attribute [local go_sem] max2_int min2_int max_two min_two max_three min_three max_four min_four   -- for this text's walks alone
set_option linter.unusedVariables false
set_option linter.unusedSimpArgs false

/-! ### impl_LonelyTime: function 17 -/
def impl_LonelyTime.l0 : Nat → Int → List (S35) → Int → Int → Int → Int → Int → Option (Int × Bool)
  | 0, _, _, _, _, _, _, _ => none
  | k + 1, x0, x1, x2, x8, x9, x19, x20 => if x20 < x19 then ((impl_nearestOther.f k x0 x1 x2 x20).bind fun t338 => (if t338 > x9 then (impl_LonelyTime.l0 k x0 x1 x2 x20 t338 x19 (wrap64 (x20 + 1))) else (impl_LonelyTime.l0 k x0 x1 x2 x8 x9 x19 (wrap64 (x20 + 1))))) else (some (x8, true))
def impl_LonelyTime.f (k : Nat) (a0 : Int) (l1 : List (S35)) (a2 : Int) : Option (Int × Bool) := (impl_areRunnersOf.f a0 l1 a2).bind fun t336 => (if t336 = true then ((impl_runPeriod.f k a0 l1).bind fun t337 => (impl_LonelyTime.l0 k a0 l1 a2 0 (-1) t337 0)) else (some (0, false)))


set_option maxHeartbeats 8000000 in
set_option maxRecDepth 100000 in
theorem impl_LonelyTime.calls (k : Nat) (a0 : Int) (A1 : Option Addr) (c1 : Nat) (l1 : List (S35)) (a2 : Int) (r1 : Int) (r2 : Bool) (w : World) (hr1 : Kd.C k35 w A1 l1.length l1) (hc1 : l1.length ≤ c1) (h : impl_LonelyTime.f k a0 l1 a2 = some (r1, r2)) :
  Calls Tryz.prog 17 #[.int .i64 a0, .slice A1 l1.length c1, .int .i64 a2] w fun e w' => e = .returned (.tuple #[.int .i64 r1, .bool r2]) ∧ Below w.heap.size w w' := by
 have HR1 := A_ hr1
 have HC1 := A_ hc1
 clear hr1 hc1
 have HB := A_ (Below.refl w.heap.size w)
 have H := h
 unfold impl_LonelyTime.f at H
 clear h
 replace H := ob_ H
 obtain ⟨t336, A4, H⟩ := H
 (try dsimp only at H)
 by_cases c5 : t336 = true
 ·
  subst c5
  rw [if_pos rfl] at H
  replace H := ob_ H
  obtain ⟨t337, A6, H⟩ := H
  (try dsimp only at H)
  have H' := A_ H
  clear H
  go_enter Tryz.func17, Tryz.ntmps17
  go_wp2_with (first | ((with_reducible refine gate_callee (f := 57) rfl ?_); refine gl_ (some 15) Tryz.func57 #[.int .i64 a0, .slice A1 l1.length c1, .int .i64 a2] ?_; (with_reducible refine (impl_areRunnersOf.calls a0 _ _ l1 a2 true _ ?side1 ?side2 A4.out).mono ?_); (case side1 => repeat (first | exact HR1.out | (with_reducible refine Kd.C_alloc ?_ _) | (with_reducible refine Kd.C_drewN ?_ _) | (with_reducible refine Kd.C_drew ?_))); (case side2 => exact HC1.out); rintro e w7 ⟨rfl, hb⟩; refine ⟨_, rfl, ?_⟩; replace HB := A_ (below_step bw_ hb); (try clear hb)) | ((with_reducible refine gate_callee (f := 58) rfl ?_); refine gl_ (some 19) Tryz.func58 #[.int .i64 a0, .slice A1 l1.length c1] ?_; (with_reducible refine (impl_runPeriod.calls k a0 _ _ l1 t337 _ ?side1 ?side2 A6.out).mono ?_); (case side1 => repeat (first | exact (Kd.C_below HR1.out HB.out) | (with_reducible refine Kd.C_alloc ?_ _) | (with_reducible refine Kd.C_drewN ?_ _) | (with_reducible refine Kd.C_drew ?_))); (case side2 => exact HC1.out); rintro e w8 ⟨rfl, hb⟩; refine ⟨_, rfl, ?_⟩; replace HB := A_ (below_step bw_ hb); (try clear hb)))
  go_loopg [8, 9, 20] k (fun kq v8 v9 v20 w' => ∃ (x8_1 : Int) (x9_1 : Int) (x20_1 : Int), v8 = .int .i64 x8_1 ∧ v9 = .int .i64 x9_1 ∧ v20 = .int .i64 x20_1 ∧ Aside0 (impl_LonelyTime.l0 kq a0 l1 a2 x8_1 x9_1 t337 x20_1 = some (r1, r2)) ∧ Aside0 (kq ≤ k) ∧ Aside0 (Below w.heap.size w w'))
  case atStart => exact ⟨(0), ((-1)), (0), (rs_), (rs_), (rs_), H', ⟨Nat.le_refl _⟩, ⟨bw_⟩⟩
  case round =>
   clear H'
   try clear c1
   try clear p2
   try clear c5
   obtain ⟨x8_1, x9_1, x20_1, rfl, rfl, rfl, HA, HK1, HB⟩ := hrel
   cases gk with
      | zero => exact absurd HA.out (by simp [impl_LonelyTime.l0])
      | succ k1 =>
    have H := HA.out
    clear HA
    simp only [impl_LonelyTime.l0] at H
    by_cases c9 : x20_1 < t337
    ·
     rw [if_pos c9] at H
     replace c9 := decide_eq_true c9
     replace H := ob_ H
     obtain ⟨t338, A10, H⟩ := H
     (try dsimp only at H)
     by_cases c11 : t338 > x9_1
     ·
      rw [if_pos c11] at H
      replace c11 := decide_eq_true (gt_iff_lt.mp c11)
      have H' := A_ H
      clear H
      go_wp2_with (first | ((with_reducible refine gate_callee (f := 59) rfl ?_); refine gl_ (some 27) Tryz.func59 #[.int .i64 a0, .slice A1 l1.length c1, .int .i64 a2, .int .i64 x20_1] ?_; (with_reducible refine (impl_nearestOther.calls k1 a0 _ _ l1 a2 x20_1 t338 _ ?side1 ?side2 A10.out).mono ?_); (case side1 => repeat (first | exact (Kd.C_below HR1.out HB.out) | (with_reducible refine Kd.C_alloc ?_ _) | (with_reducible refine Kd.C_drewN ?_ _) | (with_reducible refine Kd.C_drew ?_))); (case side2 => exact HC1.out); rintro e w12 ⟨rfl, hb⟩; refine ⟨_, rfl, ?_⟩; replace HB := A_ (below_step bw_ hb); (try clear hb)))
      go_roundg k1
      case measure => have := HK1.out; omega
      case rel => exact ⟨(x20_1), (t338), (wrap64 (x20_1 + 1)), (rs_), (rs_), (rs_), H', ⟨by have := HK1.out; omega⟩, ⟨bw_⟩⟩
     ·
      rw [if_neg c11] at H
      replace c11 := decide_eq_false (mt gt_iff_lt.mpr c11)
      have H' := A_ H
      clear H
      go_wp2_with (first | ((with_reducible refine gate_callee (f := 59) rfl ?_); refine gl_ (some 27) Tryz.func59 #[.int .i64 a0, .slice A1 l1.length c1, .int .i64 a2, .int .i64 x20_1] ?_; (with_reducible refine (impl_nearestOther.calls k1 a0 _ _ l1 a2 x20_1 t338 _ ?side1 ?side2 A10.out).mono ?_); (case side1 => repeat (first | exact (Kd.C_below HR1.out HB.out) | (with_reducible refine Kd.C_alloc ?_ _) | (with_reducible refine Kd.C_drewN ?_ _) | (with_reducible refine Kd.C_drew ?_))); (case side2 => exact HC1.out); rintro e w13 ⟨rfl, hb⟩; refine ⟨_, rfl, ?_⟩; replace HB := A_ (below_step bw_ hb); (try clear hb)))
      go_roundg k1
      case measure => have := HK1.out; omega
      case rel => exact ⟨(x8_1), (x9_1), (wrap64 (x20_1 + 1)), (rs_), (rs_), (rs_), H', ⟨by have := HK1.out; omega⟩, ⟨bw_⟩⟩
    ·
     rw [if_neg c9] at H
     replace c9 := decide_eq_false c9
     simp only [Option.some.injEq, Prod.mk.injEq] at H
     obtain ⟨rfl, rfl⟩ := H
     go_wp2
     go_ret2
     exact ⟨rt_, bw_⟩
 ·
  replace c5 := Bool.eq_false_iff.mpr c5
  subst c5
  rw [if_neg (show ¬ (false = true) by decide)] at H
  simp only [Option.some.injEq, Prod.mk.injEq] at H
  obtain ⟨rfl, rfl⟩ := H
  go_enter Tryz.func17, Tryz.ntmps17
  go_wp2_with (first | ((with_reducible refine gate_callee (f := 57) rfl ?_); refine gl_ (some 15) Tryz.func57 #[.int .i64 a0, .slice A1 l1.length c1, .int .i64 a2] ?_; (with_reducible refine (impl_areRunnersOf.calls a0 _ _ l1 a2 false _ ?side1 ?side2 A4.out).mono ?_); (case side1 => repeat (first | exact HR1.out | (with_reducible refine Kd.C_alloc ?_ _) | (with_reducible refine Kd.C_drewN ?_ _) | (with_reducible refine Kd.C_drew ?_))); (case side2 => exact HC1.out); rintro e w14 ⟨rfl, hb⟩; refine ⟨_, rfl, ?_⟩; replace HB := A_ (below_step bw_ hb); (try clear hb)))
  go_ret2
  exact ⟨rt_, bw_⟩

/-! ### spec_trAsked: function 60 -/
def spec_trAsked.f (k : Nat) (a0 : Int) (l1 : List (S35)) (a2 : Int) : Option (Bool) := (spec_trList.f k a0 l1).bind fun t339 => (if t339 = true then (if (l1.length : Int) > 1 then ((spec_l1In.f a2 0 (wrap64 ((l1.length : Int) - 1))).bind fun t340 => (some t340)) else (some false)) else (some false))

set_option maxHeartbeats 8000000 in
set_option maxRecDepth 100000 in
theorem spec_trAsked.calls (k : Nat) (a0 : Int) (A1 : Option Addr) (c1 : Nat) (l1 : List (S35)) (a2 : Int) (r : Bool) (w : World) (hr1 : Kd.C k35 w A1 l1.length l1) (hc1 : l1.length ≤ c1) (h : spec_trAsked.f k a0 l1 a2 = some r) :
  Calls Tryz.prog 60 #[.int .i64 a0, .slice A1 l1.length c1, .int .i64 a2] w fun e w' => e = .returned (.bool r) ∧ Below w.heap.size w w' := by
 have HR1 := A_ hr1
 have HC1 := A_ hc1
 clear hr1 hc1
 have HB := A_ (Below.refl w.heap.size w)
 have H := h
 unfold spec_trAsked.f at H
 clear h
 replace H := ob_ H
 obtain ⟨t339, A4, H⟩ := H
 (try dsimp only at H)
 by_cases c5 : t339 = true
 ·
  subst c5
  rw [if_pos rfl] at H
  by_cases c6 : (l1.length : Int) > 1
  ·
   rw [if_pos c6] at H
   have c6b0 : decide (1 < (l1.length : Int)) = true := decide_eq_true c6
   have c6b1 : decide (1 < l1.length) = true := decide_eq_true (by omega)
   clear c6
   replace H := Option.bind_eq_some_iff.mp H
   obtain ⟨t340, A70, H⟩ := H
   replace H : (some t340) = some r := H
   have A7 := A_ A70
   clear A70
   obtain rfl := Option.some.inj H
   go_enter Tryz.func60, Tryz.ntmps60
   go_wp2_with (first | ((with_reducible refine gate_callee (f := 48) rfl ?_); refine gl_ (some 9) Tryz.func48 #[.int .i64 a0, .slice A1 l1.length c1] ?_; (with_reducible refine (spec_trList.calls k a0 _ _ l1 true _ ?side1 ?side2 A4.out).mono ?_); (case side1 => repeat (first | exact HR1.out | (with_reducible refine Kd.C_alloc ?_ _) | (with_reducible refine Kd.C_drewN ?_ _) | (with_reducible refine Kd.C_drew ?_))); (case side2 => exact HC1.out); rintro e w8 ⟨rfl, hb⟩; refine ⟨_, rfl, ?_⟩; replace HB := A_ (below_step bw_ hb); (try clear hb)) | (go_at_call 67; (with_reducible refine (spec_l1In.calls a2 0 (wrap64 ((l1.length : Int) - 1)) t340 _ A7.out).mono ?_); rintro e w' ⟨rfl, ⟨nd, rfl⟩⟩))
   go_ret
   exact ⟨rt_, bw_⟩
  ·
   rw [if_neg c6] at H
   have c6b0 : decide (1 < (l1.length : Int)) = false := decide_eq_false c6
   have c6b1 : decide (1 < l1.length) = false := decide_eq_false (by omega)
   clear c6
   obtain rfl := Option.some.inj H
   go_enter Tryz.func60, Tryz.ntmps60
   go_wp2_with (first | ((with_reducible refine gate_callee (f := 48) rfl ?_); refine gl_ (some 9) Tryz.func48 #[.int .i64 a0, .slice A1 l1.length c1] ?_; (with_reducible refine (spec_trList.calls k a0 _ _ l1 true _ ?side1 ?side2 A4.out).mono ?_); (case side1 => repeat (first | exact HR1.out | (with_reducible refine Kd.C_alloc ?_ _) | (with_reducible refine Kd.C_drewN ?_ _) | (with_reducible refine Kd.C_drew ?_))); (case side2 => exact HC1.out); rintro e w9 ⟨rfl, hb⟩; refine ⟨_, rfl, ?_⟩; replace HB := A_ (below_step bw_ hb); (try clear hb)))
   go_ret
   exact ⟨rt_, bw_⟩
 ·
  replace c5 := Bool.eq_false_iff.mpr c5
  subst c5
  rw [if_neg (show ¬ (false = true) by decide)] at H
  obtain rfl := Option.some.inj H
  go_enter Tryz.func60, Tryz.ntmps60
  go_wp2_with (first | ((with_reducible refine gate_callee (f := 48) rfl ?_); refine gl_ (some 9) Tryz.func48 #[.int .i64 a0, .slice A1 l1.length c1] ?_; (with_reducible refine (spec_trList.calls k a0 _ _ l1 false _ ?side1 ?side2 A4.out).mono ?_); (case side1 => repeat (first | exact HR1.out | (with_reducible refine Kd.C_alloc ?_ _) | (with_reducible refine Kd.C_drewN ?_ _) | (with_reducible refine Kd.C_drew ?_))); (case side2 => exact HC1.out); rintro e w10 ⟨rfl, hb⟩; refine ⟨_, rfl, ?_⟩; replace HB := A_ (below_step bw_ hb); (try clear hb)))
  go_ret
  exact ⟨rt_, bw_⟩

/-! ### spec_trCommon: function 69 -/
def spec_trCommon.l0 : Nat → Int → Int → Option (Int)
  | 0, _, _ => none
  | k + 1, x0, x1 => if x1 > 0 then (if x1 = 0 then (none) else (spec_trCommon.l0 k x1 (Int.tmod x0 x1))) else (some x0)
def spec_trCommon.f (k : Nat) (a0 : Int) (a1 : Int) : Option (Int) := spec_trCommon.l0 k a0 a1


set_option maxHeartbeats 8000000 in
set_option maxRecDepth 100000 in
theorem spec_trCommon.calls (k : Nat) (a0 : Int) (a1 : Int) (r : Int) (w : World) (h : spec_trCommon.f k a0 a1 = some r) :
  Calls Tryz.prog 69 #[.int .i64 a0, .int .i64 a1] w fun e w' => e = .returned (.int .i64 r) ∧ Drawn0 w w' := by
 have H : (spec_trCommon.l0 k a0 a1) = some r := h
 clear h
 have H' := A_ H
 clear H
 go_enter Tryz.func69, Tryz.ntmps69
 go_wp2
 repeat (go_quiet (fail); try go_wp2)
 go_loopg [0, 1] k (fun kq v0 v1 w' => ∃ (x0_1 : Int) (x1_1 : Int), v0 = .int .i64 x0_1 ∧ v1 = .int .i64 x1_1 ∧ Aside0 (spec_trCommon.l0 kq x0_1 x1_1 = some r) ∧ Aside0 (kq ≤ k) ∧ Drawn0 w w')
 case atStart => exact ⟨(a0), (a1), (rs_), (rs_), H', ⟨Nat.le_refl _⟩, by repeat (first | exact Drawn0.refl _ | apply Drawn0.step)⟩
 case round =>
  clear H'
  try clear p2
  obtain ⟨x0_1, x1_1, rfl, rfl, HA, HK1, ⟨m1, rfl⟩⟩ := hrel
  cases gk with
    | zero => exact absurd HA.out (by simp [spec_trCommon.l0])
    | succ k1 =>
   have H := HA.out
   clear HA
   simp only [spec_trCommon.l0] at H
   by_cases c3 : x1_1 > 0
   ·
    rw [if_pos c3] at H
    replace c3 := decide_eq_true (gt_iff_lt.mp c3)
    by_cases c4 : x1_1 = 0
    ·
     rw [if_pos c4] at H
     exact absurd H (by simp)
    ·
     rw [if_neg c4] at H
     have c4b0 : (x1_1 == 0) = false := beq_eq_false_iff_ne.mpr c4
     have c4b1 : (x1_1 != 0) = true := bne_iff_ne.mpr c4
     have H' := A_ H
     clear H
     go_wp2
     repeat (go_quiet (fail); try go_wp2)
     go_roundg k1
     case measure => have := HK1.out; omega
     case rel => exact ⟨(x1_1), (Int.tmod x0_1 x1_1), (rs_), (rs_), H', ⟨by have := HK1.out; omega⟩, by repeat (first | exact Drawn0.refl _ | apply Drawn0.step)⟩
   ·
    rw [if_neg c3] at H
    replace c3 := decide_eq_false (mt gt_iff_lt.mpr c3)
    obtain rfl := Option.some.inj H
    go_wp2
    repeat (go_quiet (fail); try go_wp2)
    go_ret
    exact ⟨rs_, by repeat (first | exact Drawn0.refl _ | apply Drawn0.step)⟩

/-! ### spec_trPeriod: function 61 -/
def spec_trPeriod.l0 : Nat → Int → Int → List (S35) → Int → Int → Option (Int)
  | 0, _, _, _, _, _ => none
  | k + 1, x0, x5, x9, x10, x11 => if x11 < x10 then (if 0 ≤ x11 then (if x11 < (x9.length : Int) then ((spec_trCommon.f k x5 ((rd_T35 x9 x11).f1)).bind fun t343 => (spec_trPeriod.l0 k x0 t343 x9 x10 (wrap64 (x11 + 1)))) else (none)) else (none)) else (if x5 = 0 then (none) else (some (wrap64 (Int.tdiv x0 x5))))
def spec_trPeriod.f (k : Nat) (a0 : Int) (l1 : List (S35)) : Option (Int) := spec_trPeriod.l0 k a0 a0 l1 (l1.length : Int) 0


set_option maxHeartbeats 8000000 in
set_option maxRecDepth 100000 in
theorem spec_trPeriod.calls (k : Nat) (a0 : Int) (A1 : Option Addr) (c1 : Nat) (l1 : List (S35)) (r : Int) (w : World) (hr1 : Kd.C k35 w A1 l1.length l1) (hc1 : l1.length ≤ c1) (h : spec_trPeriod.f k a0 l1 = some r) :
  Calls Tryz.prog 61 #[.int .i64 a0, .slice A1 l1.length c1] w fun e w' => e = .returned (.int .i64 r) ∧ Below w.heap.size w w' := by
 have hu35 := Tryz.underlying35
 have HR1 := A_ hr1
 have HC1 := A_ hc1
 clear hr1 hc1
 have HB := A_ (Below.refl w.heap.size w)
 have H : (spec_trPeriod.l0 k a0 a0 l1 (l1.length : Int) 0) = some r := h
 clear h
 have H' := A_ H
 clear H
 go_enter Tryz.func61, Tryz.ntmps61
 go_wp2
 go_loopg [5, 11] k (fun kq v5 v11 w' => ∃ (x5_1 : Int) (x11_1 : Int), v5 = .int .i64 x5_1 ∧ v11 = .int .i64 x11_1 ∧ Aside0 (spec_trPeriod.l0 kq a0 x5_1 l1 (l1.length : Int) x11_1 = some r) ∧ Aside0 (kq ≤ k) ∧ Aside0 (Below w.heap.size w w'))
 case atStart => exact ⟨(a0), (0), (rs_), (rs_), H', ⟨Nat.le_refl _⟩, ⟨bw_⟩⟩
 case round =>
  clear H'
  try clear c1
  try clear p2
  obtain ⟨x5_1, x11_1, rfl, rfl, HA, HK1, HB⟩ := hrel
  cases gk with
    | zero => exact absurd HA.out (by simp [spec_trPeriod.l0])
    | succ k1 =>
   have H := HA.out
   clear HA
   simp only [spec_trPeriod.l0] at H
   by_cases c3 : x11_1 < (l1.length : Int)
   ·
    rw [if_pos c3] at H
    replace c3 := decide_eq_true c3
    by_cases c4 : 0 ≤ x11_1
    ·
     rw [if_pos c4] at H
     replace c4 := decide_eq_true c4
     by_cases c5 : x11_1 < (l1.length : Int)
     ·
      rw [if_pos c5] at H
      replace c5 := decide_eq_true c5
      replace H := ob_ H
      obtain ⟨t343, A6, H⟩ := H
      (try dsimp only at H)
      have H' := A_ H
      clear H
      have p341 : 0 ≤ (x11_1 : Int) := of_decide_eq_true (by first | (with_reducible assumption) | assumption)
      have q341 : x11_1 < (l1.length : Int) := of_decide_eq_true (by first | (with_reducible assumption) | assumption)
      obtain ⟨ad341, e341, hx341_0, hx341_1⟩ := at_T35 HR1.out x11_1 p341 q341
      cases e341
      replace hx341_0 := (HB.out.cell (World.block_lt_of_cell? w _ hx341_0)).trans hx341_0
      replace hx341_1 := (HB.out.cell (World.block_lt_of_cell? w _ hx341_1)).trans hx341_1
      replace p341 := eq_true p341
      replace q341 := eq_true q341
      go_wp2_with (first | ((with_reducible refine gate_dst (N := 7) rfl ?_); refine be_ 7 #[.int .i64 0, .int .i64 0] 35 ?_; intro gb342 hg w7 hbox hb; have BK342 := A_ hbox; have GW342 := A_ (bz_ (w := w) hg); have GE342 := A_ (bz_ (w := w) hg); replace HB := A_ (below_step bw_ hb); clear hb hbox hg; have hcz8_0 := hz_ BK342.out 0 (.int .i64 0); have hcz8_1 := hz_ BK342.out 1 (.int .i64 0); have hfz8_0 := blk_frozen BK342.out 0; have hfz8_1 := blk_frozen BK342.out 1) | ((with_reducible refine gate_callee (f := 69) rfl ?_); refine gl_ (some 18) Tryz.func69 #[.int .i64 x5_1, .int .i64 ((rd_T35 l1 x11_1).f1)] ?_; (with_reducible refine (spec_trCommon.calls k1 x5_1 ((rd_T35 l1 x11_1).f1) t343 _ A6.out).mono ?_); rintro e w' ⟨rfl, ⟨nd, rfl⟩⟩; refine ⟨_, rfl, ?_⟩))
      go_roundg k1
      case measure => have := HK1.out; omega
      case rel => exact ⟨(t343), (wrap64 (x11_1 + 1)), (rs_), (rs_), H', ⟨by have := HK1.out; omega⟩, ⟨bw_⟩⟩
     ·
      rw [if_neg c5] at H
      exact absurd H (by simp)
    ·
     rw [if_neg c4] at H
     exact absurd H (by simp)
   ·
    rw [if_neg c3] at H
    replace c3 := decide_eq_false c3
    by_cases c9 : x5_1 = 0
    ·
     rw [if_pos c9] at H
     exact absurd H (by simp)
    ·
     rw [if_neg c9] at H
     have c9b0 : (x5_1 == 0) = false := beq_eq_false_iff_ne.mpr c9
     have c9b1 : (x5_1 != 0) = true := bne_iff_ne.mpr c9
     obtain rfl := Option.some.inj H
     go_wp2
     go_ret
     exact ⟨rt_, bw_⟩

/-! ### spec_l1Abs: function 93 -/
def spec_l1Abs.f (a0 : Int) : Option (Int) := (spec_l1Most.f a0 (wrap64 (-a0))).bind fun t344 => (some t344)
set_option maxHeartbeats 8000000 in
set_option maxRecDepth 100000 in
theorem spec_l1Abs.calls (a0 : Int) (r : Int) (w : World) (h : spec_l1Abs.f a0 = some r) :
  Calls Tryz.prog 93 #[.int .i64 a0] w fun e w' => e = .returned (.int .i64 r) ∧ Drawn0 w w' := by
 have H : ((spec_l1Most.f a0 (wrap64 (-a0))).bind fun t344 => (some t344)) = some r := h
 clear h
 replace H := Option.bind_eq_some_iff.mp H
 obtain ⟨t344, A20, H⟩ := H
 replace H : (some t344) = some r := H
 have A2 := A_ A20
 clear A20
 obtain rfl := Option.some.inj H
 go_enter Tryz.func93, Tryz.ntmps93
 go_wp2_with (first | ((with_reducible refine gate_callee (f := 102) rfl ?_); refine gl_ (some 6) Tryz.func102 #[.int .i64 a0, .int .i64 (wrap64 (-a0))] ?_; (with_reducible refine (spec_l1Most.calls a0 (wrap64 (-a0)) t344 _ A2.out).mono ?_); rintro e w' ⟨rfl, ⟨nd, rfl⟩⟩; refine ⟨_, rfl, ?_⟩))
 go_ret
 exact ⟨rs_, by repeat (first | exact Drawn0.refl _ | apply Drawn0.step)⟩

/-! ### spec_trNearest: function 62 -/
def spec_trNearest.l0 : Nat → Int → List (S35) → Int → Int → Int → List (S35) → Int → Int → Option (Int)
  | 0, _, _, _, _, _, _, _, _ => none
  | k + 1, x0, x1, x2, x3, x9, x14, x15, x16 => if x16 < x15 then (if 0 ≤ x16 then (if x16 < (x14.length : Int) then (if x16 = x2 then (spec_trNearest.l0 k x0 x1 x2 x3 x9 x14 x15 (wrap64 (x16 + 1))) else ((spec_trPlace.f x0 ((rd_T35 x14 x16).f0) ((rd_T35 x14 x16).f1) x3).bind fun t347 => (if 0 ≤ x2 then (if x2 < (x1.length : Int) then ((spec_trPlace.f x0 ((rd_T35 x1 x2).f0) ((rd_T35 x1 x2).f1) x3).bind fun t349 => ((spec_l1Abs.f (wrap64 (t347 - t349))).bind fun t350 => ((spec_l1Least.f t350 (wrap64 (x0 - t350))).bind fun t351 => ((spec_l1Least.f x9 t351).bind fun t352 => (spec_trNearest.l0 k x0 x1 x2 x3 t352 x14 x15 (wrap64 (x16 + 1))))))) else (none)) else (none)))) else (none)) else (none)) else (some x9)
def spec_trNearest.f (k : Nat) (a0 : Int) (l1 : List (S35)) (a2 : Int) (a3 : Int) : Option (Int) := spec_trNearest.l0 k a0 l1 a2 a3 a0 l1 (l1.length : Int) 0


def spec_trNearest.T6 : Bool × List (List Nat × List Nat) := (true, [([], []), ([], []), ([], []), ([0, 1, 2], [0, 1, 2]), ([], []), ([], []), ([], []), ([5, 6], [5, 6]), ([7], [7]), ([], []), ([4, 8, 9, 3], [4, 8, 9]), ([3, 10], [3, 10]), ([11, 10], [11]), ([12, 12, 0, 1, 2, 3, 4, 5, 6, 7, 8, 9, 10, 11, 12], [12])])
def spec_trNearest.B6 : List Nat := [0, 0, 0, 7, 0, 0, 0, 96, 224, 0, 1023, 2047, 4095, 8191]
theorem spec_trNearest.tab6 : rtab .any (opsOf Tryz.f62 6) = spec_trNearest.T6 := by kernel_rfl
theorem spec_trNearest.bits6 : waitsOk spec_trNearest.T6.2 spec_trNearest.B6 = true := by kernel_rfl
set_option maxHeartbeats 8000000 in
set_option maxRecDepth 100000 in
theorem spec_trNearest.calls (k : Nat) (a0 : Int) (A1 : Option Addr) (c1 : Nat) (l1 : List (S35)) (a2 : Int) (a3 : Int) (r : Int) (w : World) (hr1 : Kd.C k35 w A1 l1.length l1) (hc1 : l1.length ≤ c1) (h : spec_trNearest.f k a0 l1 a2 a3 = some r) :
  Calls Tryz.prog 62 #[.int .i64 a0, .slice A1 l1.length c1, .int .i64 a2, .int .i64 a3] w fun e w' => e = .returned (.int .i64 r) ∧ Below w.heap.size w w' := by
 have hu35 := Tryz.underlying35
 have HR1 := A_ hr1
 have HC1 := A_ hc1
 clear hr1 hc1
 have HB := A_ (Below.refl w.heap.size w)
 have H : (spec_trNearest.l0 k a0 l1 a2 a3 a0 l1 (l1.length : Int) 0) = some r := h
 clear h
 have H' := A_ H
 clear H
 go_enter Tryz.func62, Tryz.ntmps62
 go_wp2
 go_loopg [9, 16] k (fun kq v9 v16 w' => ∃ (x9_1 : Int) (x16_1 : Int), v9 = .int .i64 x9_1 ∧ v16 = .int .i64 x16_1 ∧ Aside0 (spec_trNearest.l0 kq a0 l1 a2 a3 x9_1 l1 (l1.length : Int) x16_1 = some r) ∧ Aside0 (kq ≤ k) ∧ Aside0 (Below w.heap.size w w'))
 case atStart => exact ⟨(a0), (0), (rs_), (rs_), H', ⟨Nat.le_refl _⟩, ⟨bw_⟩⟩
 case round =>
  clear H'
  try clear c1
  try clear p2
  obtain ⟨x9_1, x16_1, rfl, rfl, HA, HK1, HB⟩ := hrel
  cases gk with
    | zero => exact absurd HA.out (by simp [spec_trNearest.l0])
    | succ k1 =>
   have H := HA.out
   clear HA
   simp only [spec_trNearest.l0] at H
   by_cases c5 : x16_1 < (l1.length : Int)
   ·
    rw [if_pos c5] at H
    replace c5 := decide_eq_true c5
    by_cases c6 : 0 ≤ x16_1
    ·
     rw [if_pos c6] at H
     replace c6 := decide_eq_true c6
     by_cases c7 : x16_1 < (l1.length : Int)
     ·
      rw [if_pos c7] at H
      replace c7 := decide_eq_true c7
      by_cases c8 : x16_1 = a2
      ·
       rw [if_pos c8] at H
       have c8b0 : (x16_1 == a2) = true := beq_iff_eq.mpr c8
       have c8b1 : (x16_1 != a2) = false := bne_eq_false_iff_eq.mpr c8
       clear c8
       have H' := A_ H
       clear H
       have p345 : 0 ≤ (x16_1 : Int) := of_decide_eq_true (by first | (with_reducible assumption) | assumption)
       have q345 : x16_1 < (l1.length : Int) := of_decide_eq_true (by first | (with_reducible assumption) | assumption)
       obtain ⟨ad345, e345, hx345_0, hx345_1⟩ := at_T35 HR1.out x16_1 p345 q345
       cases e345
       replace hx345_0 := (HB.out.cell (World.block_lt_of_cell? w _ hx345_0)).trans hx345_0
       replace hx345_1 := (HB.out.cell (World.block_lt_of_cell? w _ hx345_1)).trans hx345_1
       replace p345 := eq_true p345
       replace q345 := eq_true q345
       go_wp2_with (first | ((with_reducible refine gate_dst (N := 11) rfl ?_); refine be_ 11 #[.int .i64 0, .int .i64 0] 35 ?_; intro gb346 hg w9 hbox hb; have BK346 := A_ hbox; have GW346 := A_ (bz_ (w := w) hg); have GE346 := A_ (bz_ (w := w) hg); replace HB := A_ (below_step bw_ hb); clear hb hbox hg; have hcz10_0 := hz_ BK346.out 0 (.int .i64 0); have hcz10_1 := hz_ BK346.out 1 (.int .i64 0); have hfz10_0 := blk_frozen BK346.out 0; have hfz10_1 := blk_frozen BK346.out 1))
       go_roundg k1
       case measure => have := HK1.out; omega
       case rel => exact ⟨(x9_1), (wrap64 (x16_1 + 1)), (rs_), (rs_), H', ⟨by have := HK1.out; omega⟩, ⟨bw_⟩⟩
      ·
       rw [if_neg c8] at H
       have c8b0 : (x16_1 == a2) = false := beq_eq_false_iff_ne.mpr c8
       have c8b1 : (x16_1 != a2) = true := bne_iff_ne.mpr c8
       replace H := ob_ H
       obtain ⟨t347, A11, H⟩ := H
       (try dsimp only at H)
       by_cases c12 : 0 ≤ a2
       ·
        rw [if_pos c12] at H
        replace c12 := decide_eq_true c12
        by_cases c13 : a2 < (l1.length : Int)
        ·
         rw [if_pos c13] at H
         replace c13 := decide_eq_true c13
         replace H := ob_ H
         obtain ⟨t349, A14, H⟩ := H
         (try dsimp only at H)
         replace H := ob_ H
         obtain ⟨t350, A15, H⟩ := H
         (try dsimp only at H)
         replace H := ob_ H
         obtain ⟨t351, A16, H⟩ := H
         (try dsimp only at H)
         replace H := ob_ H
         obtain ⟨t352, A17, H⟩ := H
         (try dsimp only at H)
         have H' := A_ H
         clear H
         have p345 : 0 ≤ (x16_1 : Int) := of_decide_eq_true (by first | (with_reducible assumption) | assumption)
         have q345 : x16_1 < (l1.length : Int) := of_decide_eq_true (by first | (with_reducible assumption) | assumption)
         obtain ⟨ad345, e345, hx345_0, hx345_1⟩ := at_T35 HR1.out x16_1 p345 q345
         cases e345
         replace hx345_0 := (HB.out.cell (World.block_lt_of_cell? w _ hx345_0)).trans hx345_0
         replace hx345_1 := (HB.out.cell (World.block_lt_of_cell? w _ hx345_1)).trans hx345_1
         replace p345 := eq_true p345
         replace q345 := eq_true q345
         try go_wp2_with (first | ((with_reducible refine gate_dst (N := 11) rfl ?_); refine be_ 11 #[.int .i64 0, .int .i64 0] 35 ?_; intro gb346 hg w18 hbox hb; have BK346 := A_ hbox; have GW346 := A_ (bz_ (w := w) hg); have GE346 := A_ (bz_ (w := w) hg); replace HB := A_ (below_step bw_ hb); clear hb hbox hg; have hcz19_0 := hz_ BK346.out 0 (.int .i64 0); have hcz19_1 := hz_ BK346.out 1 (.int .i64 0); have hfz19_0 := blk_frozen BK346.out 0; have hfz19_1 := blk_frozen BK346.out 1))
         have n0_ : Aside0 (((w18.setCell ⟨gb346, 0, none⟩ (.int .i64 ((rd_T35 l1 x16_1).f0))).setCell ⟨gb346, 1, none⟩ (.int .i64 ((rd_T35 l1 x16_1).f1))).heap[gb346]? = some (.cells #[.int .i64 ((rd_T35 l1 x16_1).f0), .int .i64 ((rd_T35 l1 x16_1).f1)] 35 (0, 0))) := ⟨by (with_reducible repeat (first | refine blk_drewN ?_ _ | refine blk_drew ?_ | refine blk_alloc ?_ _)); refine blk_put (cs := #[.int .i64 ((rd_T35 l1 x16_1).f0), .int .i64 0]) ?_ 1 _ rfl; (with_reducible repeat (first | refine blk_drewN ?_ _ | refine blk_drew ?_ | refine blk_alloc ?_ _)); refine blk_put (cs := #[.int .i64 0, .int .i64 0]) ?_ 0 _ rfl; (with_reducible repeat (first | refine blk_drewN ?_ _ | refine blk_drew ?_ | refine blk_alloc ?_ _)); exact BK346.out⟩
         have n1_ : Aside0 (Below w.heap.size w ((w18.setCell ⟨gb346, 0, none⟩ (.int .i64 ((rd_T35 l1 x16_1).f0))).setCell ⟨gb346, 1, none⟩ (.int .i64 ((rd_T35 l1 x16_1).f1)))) := ⟨bw_⟩
         (try clear BK346)
         (try clear HB)
         generalize ((w18.setCell ⟨gb346, 0, none⟩ (.int .i64 ((rd_T35 l1 x16_1).f0))).setCell ⟨gb346, 1, none⟩ (.int .i64 ((rd_T35 l1 x16_1).f1))) = w20 at n0_ n1_ ⊢
         have BK346 := n0_
         have HB := n1_
         clear n0_ n1_
         replace BK346 := A_ (blk_drew BK346.out)
         replace HB := A_ (below_drew1 HB.out)
         have p348 : 0 ≤ (a2 : Int) := of_decide_eq_true (by first | (with_reducible assumption) | assumption)
         have q348 : a2 < (l1.length : Int) := of_decide_eq_true (by first | (with_reducible assumption) | assumption)
         obtain ⟨ad348, e348, hx348_0, hx348_1⟩ := at_T35 HR1.out a2 p348 q348
         have hw348_1 := hx348_1
         have hw348_0 := hx348_0
         obtain rfl : ad345 = ad348 := (by injection e348)
         replace hx348_0 := (HB.out.cell (World.block_lt_of_cell? w _ hx348_0)).trans hx348_0
         replace hx348_1 := (HB.out.cell (World.block_lt_of_cell? w _ hx348_1)).trans hx348_1
         replace p348 := eq_true p348
         replace q348 := eq_true q348
         refine start_ (n := 14) (S := fun w' => w'.cell? ⟨gb346, 0, none⟩ = some (.int .i64 ((rd_T35 l1 x16_1).f0)) ∧ w'.cell? ⟨gb346, 1, none⟩ = some (.int .i64 ((rd_T35 l1 x16_1).f1)) ∧ w'.cell? (ad345.add ((a2).toNat * 2)) = some (.int .i64 ((rd_T35 l1 a2).f0)) ∧ w'.cell? ⟨(ad345.add ((a2).toNat * 2)).block, (ad345.add ((a2).toNat * 2)).off + 1, none⟩ = some (.int .i64 ((rd_T35 l1 a2).f1))) (ds := []) #[false, false, false, false, false, false, false, false, false, false, false, false, false, false] (by kernel_rfl) rfl rfl ⟨(blk_cell BK346.out 0).trans rfl, (blk_cell BK346.out 1).trans rfl, ((HB.out.cell (World.block_lt_of_cell? w _ hw348_0)).trans hw348_0), ((HB.out.cell (World.block_lt_of_cell? w _ hw348_1)).trans hw348_1)⟩ (fun hHeld => ?_); refine with_tabW spec_trNearest.tab6 spec_trNearest.bits6 (fun HT_ HW_ => ?_)
         generalize w20.drew = w21 at BK346 HB hx348_0 hx348_1 hHeld ⊢
         refine pu_ 0 24 14 1 ?_
         refine pu_ 2 26 14 5 ?_
         refine pu_ 4 28 14 21 ?_
         refine pu_ 5 29 14 53 ?_
         refine pu_ 6 30 14 117 ?_
         refine pu_ 7 31 14 245 ?_
         refine pu_ 9 33 14 757 ?_
         refine tk_ 1 25 14 759 hHeld ?_
         refine tk_ 8 32 14 1015 hHeld ?_
         refine one_ (i := 3) (N := some 27) (pm_ 14 1023) rfl rfl (one_of HT_.out (by kernel_rfl)) (by decide) (fun K hK => ?_)
         refine goes_ Tryz.func55 (by kernel_rfl) rfl #[.int .i64 a0, .agg #[.int .i64 ((rd_T35 l1 x16_1).f0), .int .i64 ((rd_T35 l1 x16_1).f1)], .int .i64 a3] (by rfl) rfl rfl (by (try simp only [List.map_toArray, List.map_cons, List.map_nil]); first | done | rfl | (simp only [List.length_drop, List.length_take]; rfl)) ?_
         with_reducible refine (spec_trPlace.calls a0 ((rd_T35 l1 x16_1).f0) ((rd_T35 l1 x16_1).f1) a3 t347 _ A11.out).mono ?_
         rintro e w22 ⟨rfl, hb⟩
         refine ⟨_, rfl, ?_⟩
         replace HB := A_ (below_step bw_ hb)
         replace BK346 := A_ (bb_ BK346.out hb)
         (try clear hb)
         (try clear hb2)
         (try clear hk)
         (try clear hi)
         refine hK.out _ _ ⟨(blk_cell BK346.out 0).trans rfl, (blk_cell BK346.out 1).trans rfl, ((HB.out.cell (World.block_lt_of_cell? w _ hw348_0)).trans hw348_0), ((HB.out.cell (World.block_lt_of_cell? w _ hw348_1)).trans hw348_1)⟩ (fun hHeld => ?_)
         clear hK K
         refine norm_ (a' := ?_) ?_ ?_
         rotate_left
         ·
          show Act.put _ (some 27) _ = _
          simp only [Act.put, List.setIfInBounds_toArray, List.set_cons_zero, List.set_cons_succ, i64_w, i32_w]
          rfl
         refine one_ (i := 10) (N := some 34) (pm_ 14 2047) rfl rfl (one_of HT_.out (by kernel_rfl)) (by decide) (fun K hK => ?_)
         refine goes_ Tryz.func55 (by kernel_rfl) rfl #[.int .i64 a0, .agg #[.int .i64 ((rd_T35 l1 a2).f0), .int .i64 ((rd_T35 l1 a2).f1)], .int .i64 a3] (by rfl) rfl rfl (by (try simp only [List.map_toArray, List.map_cons, List.map_nil]); first | done | rfl | (simp only [List.length_drop, List.length_take]; rfl)) ?_
         with_reducible refine (spec_trPlace.calls a0 ((rd_T35 l1 a2).f0) ((rd_T35 l1 a2).f1) a3 t349 _ A14.out).mono ?_
         rintro e w23 ⟨rfl, hb⟩
         refine ⟨_, rfl, ?_⟩
         replace HB := A_ (below_step bw_ hb)
         replace BK346 := A_ (bb_ BK346.out hb)
         (try clear hb)
         (try clear hb2)
         (try clear hk)
         (try clear hi)
         refine hK.out _ _ ⟨(blk_cell BK346.out 0).trans rfl, (blk_cell BK346.out 1).trans rfl, ((HB.out.cell (World.block_lt_of_cell? w _ hw348_0)).trans hw348_0), ((HB.out.cell (World.block_lt_of_cell? w _ hw348_1)).trans hw348_1)⟩ (fun hHeld => ?_)
         clear hK K
         refine norm_ (a' := ?_) ?_ ?_
         rotate_left
         ·
          show Act.put _ (some 34) _ = _
          simp only [Act.put, List.setIfInBounds_toArray, List.set_cons_zero, List.set_cons_succ, i64_w, i32_w]
          rfl
         refine pu_ 11 35 14 4095 ?_
         refine one_ (i := 12) (N := some 36) (pm_ 14 8191) rfl rfl (one_of HT_.out (by kernel_rfl)) (by decide) (fun K hK => ?_)
         refine goes_ Tryz.func93 (by kernel_rfl) rfl #[.int .i64 (wrap64 (t347 - t349))] (by rfl) rfl rfl (by (try simp only [List.map_toArray, List.map_cons, List.map_nil]); first | done | rfl | (simp only [List.length_drop, List.length_take]; rfl)) ?_
         with_reducible refine (spec_l1Abs.calls (wrap64 (t347 - t349)) t350 _ A15.out).mono ?_
         rintro e w' ⟨rfl, ⟨nd, rfl⟩⟩
         refine ⟨_, rfl, ?_⟩
         refine hK.out _ _ ⟨(blk_cell BK346.out 0).trans rfl, (blk_cell BK346.out 1).trans rfl, ((HB.out.cell (World.block_lt_of_cell? w _ hw348_0)).trans hw348_0), ((HB.out.cell (World.block_lt_of_cell? w _ hw348_1)).trans hw348_1)⟩ (fun hHeld => ?_)
         clear hK K
         refine norm_ (a' := ?_) ?_ ?_
         rotate_left
         ·
          show Act.put _ (some 36) _ = _
          simp only [Act.put, List.setIfInBounds_toArray, List.set_cons_zero, List.set_cons_succ, i64_w, i32_w]
          rfl
         refine pu_ 13 12 14 16383 ?_
         refine done_ (done_of HT_.out (by kernel_rfl)) ?_
         try go_wp2_with (first | ((with_reducible refine gate_callee (f := 70) rfl ?_); refine gl_ (some 42) Tryz.func70 #[.int .i64 t350, .int .i64 (wrap64 (a0 - t350))] ?_; (with_reducible refine (spec_l1Least.calls t350 (wrap64 (a0 - t350)) t351 _ A16.out).mono ?_); rintro e w' ⟨rfl, ⟨nd, rfl⟩⟩; refine ⟨_, rfl, ?_⟩) | ((with_reducible refine gate_callee (f := 70) rfl ?_); refine gl_ (some 43) Tryz.func70 #[.int .i64 x9_1, .int .i64 t351] ?_; (with_reducible refine (spec_l1Least.calls x9_1 t351 t352 _ A17.out).mono ?_); rintro e w' ⟨rfl, ⟨nd, rfl⟩⟩; refine ⟨_, rfl, ?_⟩))
         go_roundg k1
         case measure => have := HK1.out; omega
         case rel => exact ⟨(t352), (wrap64 (x16_1 + 1)), (rs_), (rs_), H', ⟨by have := HK1.out; omega⟩, ⟨bw_⟩⟩
        ·
         rw [if_neg c13] at H
         exact absurd H (by simp)
       ·
        rw [if_neg c12] at H
        exact absurd H (by simp)
     ·
      rw [if_neg c7] at H
      exact absurd H (by simp)
    ·
     rw [if_neg c6] at H
     exact absurd H (by simp)
   ·
    rw [if_neg c5] at H
    replace c5 := decide_eq_false c5
    obtain rfl := Option.some.inj H
    go_wp2
    go_ret
    exact ⟨rt_, bw_⟩

end Go.Proofs.YtfkieckkmcibbaaGreatDoor.PFnRunnersRun
