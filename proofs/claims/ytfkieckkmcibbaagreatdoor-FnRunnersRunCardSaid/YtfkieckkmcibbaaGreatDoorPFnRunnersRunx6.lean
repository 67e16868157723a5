-- Laid by a program of this session's (wip/gen/printp.sh): the functions that the law reaches, each with its walk.
import Derived.Test.YtfkieckkmcibbaaGreatDoorPFnRunnersRunx0
import Derived.Test.YtfkieckkmcibbaaGreatDoorPFnRunnersRunx2
import Derived.Test.YtfkieckkmcibbaaGreatDoorPFnRunnersRunx3
import Derived.Test.YtfkieckkmcibbaaGreatDoorPFnRunnersRunx4
namespace Go.Proofs.YtfkieckkmcibbaaGreatDoor.PFnRunnersRun
open Go.RowKit Go.Proofs.YtfkieckkmcibbaaGreatDoorW.PrintWords Go.Proofs.YtfkieckkmcibbaaGreatDoorW.PrintLast Go.Proofs.YtfkieckkmcibbaaGreatDoorW.PrintMore
attribute [local go_sem] max2_int min2_int max_two min_two max_three min_three max_four min_four   -- for this text's walks alone
set_option linter.unusedVariables false
set_option linter.unusedSimpArgs false

/-! ### laws_qSame: function 8 -/
def laws_qSame.l0 : Nat → List Int → List Int → Int → Int → Option (Bool)
  | 0, _, _, _, _ => none
  | k + 1, x0, x1, x12, x13 => if x13 < x12 then (if 0 ≤ x13 then (if x13 < (x0.length : Int) then (if x13 < (x1.length : Int) then (if (rd x0 x13) = (rd x1 x13) then (laws_qSame.l0 k x0 x1 x12 (wrap64 (x13 + 1))) else (some false)) else (none)) else (none)) else (none)) else (some true)
def laws_qSame.f (k : Nat) (l0 : List Int) (l1 : List Int) : Option (Bool) := if (l0.length : Int) = (l1.length : Int) then (laws_qSame.l0 k l0 l1 (l0.length : Int) 0) else (some false)


set_option maxHeartbeats 8000000 in
set_option maxRecDepth 100000 in
theorem laws_qSame.calls (k : Nat) (A0 : Option Addr) (c0 : Nat) (l0 : List Int) (A1 : Option Addr) (c1 : Nat) (l1 : List Int) (r : Bool) (w : World) (hr0 : Kd.C (Kd.int .i64) w A0 l0.length l0) (hc0 : l0.length ≤ c0) (hr1 : Kd.C (Kd.int .i64) w A1 l1.length l1) (hc1 : l1.length ≤ c1) (h : laws_qSame.f k l0 l1 = some r) :
  Calls Tryz.prog 8 #[.slice A0 l0.length c0, .slice A1 l1.length c1] w fun e w' => e = .returned (.bool r) ∧ Drawn0 w w' := by
 have HR0 := A_ hr0
 have HC0 := A_ hc0
 clear hr0 hc0
 have HR1 := A_ hr1
 have HC1 := A_ hc1
 clear hr1 hc1
 have H := h
 unfold laws_qSame.f at H
 clear h
 by_cases c3 : (l0.length : Int) = (l1.length : Int)
 ·
  rw [if_pos c3] at H
  have c3b0 : ((l0.length : Int) == (l1.length : Int)) = true := beq_iff_eq.mpr c3
  have c3b1 : ((l0.length : Int) != (l1.length : Int)) = false := bne_eq_false_iff_eq.mpr c3
  have c3b2 : (l0.length == l1.length) = true := by first | simpa using c3 | (simp at c3 ⊢; omega)
  clear c3
  have H' := A_ H
  clear H
  go_enter Tryz.func8, Tryz.ntmps8
  go_wp2
  repeat (go_quiet (fail); try go_wp2)
  go_loopg [13] k (fun kq v13 w' => ∃ (x13_1 : Int), v13 = .int .i64 x13_1 ∧ Aside0 (laws_qSame.l0 kq l0 l1 (l0.length : Int) x13_1 = some r) ∧ Aside0 (kq ≤ k) ∧ Drawn0 w w')
  case atStart => exact ⟨(0), (rs_), H', ⟨Nat.le_refl _⟩, by repeat (first | exact Drawn0.refl _ | apply Drawn0.step)⟩
  case round =>
   clear H'
   try clear c1
   try clear p2
   try clear c3
   try clear c3b0
   try clear c3b1
   try clear c3b2
   obtain ⟨x13_1, rfl, HA, HK1, ⟨m1, rfl⟩⟩ := hrel
   cases gk with
      | zero => exact absurd HA.out (by simp [laws_qSame.l0])
      | succ k1 =>
    have H := HA.out
    clear HA
    simp only [laws_qSame.l0] at H
    by_cases c4 : x13_1 < (l0.length : Int)
    ·
     rw [if_pos c4] at H
     replace c4 := decide_eq_true c4
     by_cases c5 : 0 ≤ x13_1
     ·
      rw [if_pos c5] at H
      replace c5 := decide_eq_true c5
      by_cases c6 : x13_1 < (l0.length : Int)
      ·
       rw [if_pos c6] at H
       replace c6 := decide_eq_true c6
       by_cases c7 : x13_1 < (l1.length : Int)
       ·
        rw [if_pos c7] at H
        replace c7 := decide_eq_true c7
        by_cases c8 : (rd l0 x13_1) = (rd l1 x13_1)
        ·
         rw [if_pos c8] at H
         have c8b0 : ((rd l0 x13_1) == (rd l1 x13_1)) = true := beq_iff_eq.mpr c8
         have c8b1 : ((rd l0 x13_1) != (rd l1 x13_1)) = false := bne_eq_false_iff_eq.mpr c8
         clear c8
         have H' := A_ H
         clear H
         have p258 : 0 ≤ (x13_1 : Int) := of_decide_eq_true (by first | (with_reducible assumption) | assumption)
         have q258 : x13_1 < (l0.length : Int) := of_decide_eq_true (by first | (with_reducible assumption) | assumption)
         obtain ⟨ad258, e258, hx258_0⟩ := Kd.at_int HR0.out x13_1 p258 q258
         cases e258
         replace p258 := eq_true p258
         replace q258 := eq_true q258
         have p259 : 0 ≤ (x13_1 : Int) := of_decide_eq_true (by first | (with_reducible assumption) | assumption)
         have q259 : x13_1 < (l1.length : Int) := of_decide_eq_true (by first | (with_reducible assumption) | assumption)
         obtain ⟨ad259, e259, hx259_0⟩ := Kd.at_int HR1.out x13_1 p259 q259
         cases e259
         replace p259 := eq_true p259
         replace q259 := eq_true q259
         go_wp2
         repeat (go_quiet (fail); try go_wp2)
         go_roundg k1
         case measure => have := HK1.out; omega
         case rel => exact ⟨(wrap64 (x13_1 + 1)), (rs_), H', ⟨by have := HK1.out; omega⟩, by repeat (first | exact Drawn0.refl _ | apply Drawn0.step)⟩
        ·
         rw [if_neg c8] at H
         have c8b0 : ((rd l0 x13_1) == (rd l1 x13_1)) = false := beq_eq_false_iff_ne.mpr c8
         have c8b1 : ((rd l0 x13_1) != (rd l1 x13_1)) = true := bne_iff_ne.mpr c8
         obtain rfl := Option.some.inj H
         have p258 : 0 ≤ (x13_1 : Int) := of_decide_eq_true (by first | (with_reducible assumption) | assumption)
         have q258 : x13_1 < (l0.length : Int) := of_decide_eq_true (by first | (with_reducible assumption) | assumption)
         obtain ⟨ad258, e258, hx258_0⟩ := Kd.at_int HR0.out x13_1 p258 q258
         cases e258
         replace p258 := eq_true p258
         replace q258 := eq_true q258
         have p259 : 0 ≤ (x13_1 : Int) := of_decide_eq_true (by first | (with_reducible assumption) | assumption)
         have q259 : x13_1 < (l1.length : Int) := of_decide_eq_true (by first | (with_reducible assumption) | assumption)
         obtain ⟨ad259, e259, hx259_0⟩ := Kd.at_int HR1.out x13_1 p259 q259
         cases e259
         replace p259 := eq_true p259
         replace q259 := eq_true q259
         go_wp2
         repeat (go_quiet (fail); try go_wp2)
         go_ret
         exact ⟨rs_, by repeat (first | exact Drawn0.refl _ | apply Drawn0.step)⟩
       ·
        rw [if_neg c7] at H
        exact absurd H (by simp)
      ·
       rw [if_neg c6] at H
       exact absurd H (by simp)
     ·
      rw [if_neg c5] at H
      exact absurd H (by simp)
    ·
     rw [if_neg c4] at H
     replace c4 := decide_eq_false c4
     obtain rfl := Option.some.inj H
     go_wp2
     repeat (go_quiet (fail); try go_wp2)
     go_ret
     exact ⟨rs_, by repeat (first | exact Drawn0.refl _ | apply Drawn0.step)⟩
 ·
  rw [if_neg c3] at H
  have c3b0 : ((l0.length : Int) == (l1.length : Int)) = false := beq_eq_false_iff_ne.mpr c3
  have c3b1 : ((l0.length : Int) != (l1.length : Int)) = true := bne_iff_ne.mpr c3
  have c3b2 : (l0.length == l1.length) = false := by first | simpa using c3 | (simp at c3 ⊢; omega)
  obtain rfl := Option.some.inj H
  go_enter Tryz.func8, Tryz.ntmps8
  go_wp2
  repeat (go_quiet (fail); try go_wp2)
  go_ret
  exact ⟨rs_, by repeat (first | exact Drawn0.refl _ | apply Drawn0.step)⟩

/-! ### laws_qHas: function 9 -/
def laws_qHas.l0 : Nat → Int → List Int → Int → Int → Option (Bool)
  | 0, _, _, _, _ => none
  | k + 1, x1, x7, x8, x9 => if x9 < x8 then (if 0 ≤ x9 then (if x9 < (x7.length : Int) then (if (rd x7 x9) = x1 then (some true) else (laws_qHas.l0 k x1 x7 x8 (wrap64 (x9 + 1)))) else (none)) else (none)) else (some false)
def laws_qHas.f (k : Nat) (l0 : List Int) (a1 : Int) : Option (Bool) := laws_qHas.l0 k a1 l0 (l0.length : Int) 0


set_option maxHeartbeats 8000000 in
set_option maxRecDepth 100000 in
theorem laws_qHas.calls (k : Nat) (A0 : Option Addr) (c0 : Nat) (l0 : List Int) (a1 : Int) (r : Bool) (w : World) (hr0 : Kd.C (Kd.int .i64) w A0 l0.length l0) (hc0 : l0.length ≤ c0) (h : laws_qHas.f k l0 a1 = some r) :
  Calls Tryz.prog 9 #[.slice A0 l0.length c0, .int .i64 a1] w fun e w' => e = .returned (.bool r) ∧ Drawn0 w w' := by
 have HR0 := A_ hr0
 have HC0 := A_ hc0
 clear hr0 hc0
 have H : (laws_qHas.l0 k a1 l0 (l0.length : Int) 0) = some r := h
 clear h
 have H' := A_ H
 clear H
 go_enter Tryz.func9, Tryz.ntmps9
 go_wp2
 go_loopg [9] k (fun kq v9 w' => ∃ (x9_1 : Int), v9 = .int .i64 x9_1 ∧ Aside0 (laws_qHas.l0 kq a1 l0 (l0.length : Int) x9_1 = some r) ∧ Aside0 (kq ≤ k) ∧ Drawn0 w w')
 case atStart => exact ⟨(0), (rs_), H', ⟨Nat.le_refl _⟩, by repeat (first | exact Drawn0.refl _ | apply Drawn0.step)⟩
 case round =>
  clear H'
  try clear p2
  obtain ⟨x9_1, rfl, HA, HK1, ⟨m1, rfl⟩⟩ := hrel
  cases gk with
    | zero => exact absurd HA.out (by simp [laws_qHas.l0])
    | succ k1 =>
   have H := HA.out
   clear HA
   simp only [laws_qHas.l0] at H
   by_cases c3 : x9_1 < (l0.length : Int)
   ·
    rw [if_pos c3] at H
    replace c3 := decide_eq_true c3
    by_cases c4 : 0 ≤ x9_1
    ·
     rw [if_pos c4] at H
     replace c4 := decide_eq_true c4
     by_cases c5 : x9_1 < (l0.length : Int)
     ·
      rw [if_pos c5] at H
      replace c5 := decide_eq_true c5
      by_cases c6 : (rd l0 x9_1) = a1
      ·
       rw [if_pos c6] at H
       have c6b0 : ((rd l0 x9_1) == a1) = true := beq_iff_eq.mpr c6
       have c6b1 : ((rd l0 x9_1) != a1) = false := bne_eq_false_iff_eq.mpr c6
       clear c6
       obtain rfl := Option.some.inj H
       have p260 : 0 ≤ (x9_1 : Int) := of_decide_eq_true (by first | (with_reducible assumption) | assumption)
       have q260 : x9_1 < (l0.length : Int) := of_decide_eq_true (by first | (with_reducible assumption) | assumption)
       obtain ⟨ad260, e260, hx260_0⟩ := Kd.at_int HR0.out x9_1 p260 q260
       cases e260
       replace p260 := eq_true p260
       replace q260 := eq_true q260
       go_wp2
       go_ret
       exact ⟨rs_, by repeat (first | exact Drawn0.refl _ | apply Drawn0.step)⟩
      ·
       rw [if_neg c6] at H
       have c6b0 : ((rd l0 x9_1) == a1) = false := beq_eq_false_iff_ne.mpr c6
       have c6b1 : ((rd l0 x9_1) != a1) = true := bne_iff_ne.mpr c6
       have H' := A_ H
       clear H
       have p260 : 0 ≤ (x9_1 : Int) := of_decide_eq_true (by first | (with_reducible assumption) | assumption)
       have q260 : x9_1 < (l0.length : Int) := of_decide_eq_true (by first | (with_reducible assumption) | assumption)
       obtain ⟨ad260, e260, hx260_0⟩ := Kd.at_int HR0.out x9_1 p260 q260
       cases e260
       replace p260 := eq_true p260
       replace q260 := eq_true q260
       go_wp2
       go_roundg k1
       case measure => have := HK1.out; omega
       case rel => exact ⟨(wrap64 (x9_1 + 1)), (rs_), H', ⟨by have := HK1.out; omega⟩, by repeat (first | exact Drawn0.refl _ | apply Drawn0.step)⟩
     ·
      rw [if_neg c5] at H
      exact absurd H (by simp)
    ·
     rw [if_neg c4] at H
     exact absurd H (by simp)
   ·
    rw [if_neg c3] at H
    replace c3 := decide_eq_false c3
    obtain rfl := Option.some.inj H
    go_wp2
    go_ret
    exact ⟨rs_, by repeat (first | exact Drawn0.refl _ | apply Drawn0.step)⟩

/-! ### impl_farAt: function 47 -/
def impl_farAt.f (a0_0 : Int) (a0_1 : Int) (a1 : Int) : Option (Int) := some (wrap64 (a0_0 + (wrap64 (a0_1 * a1))))
set_option maxHeartbeats 8000000 in
set_option maxRecDepth 100000 in
theorem impl_farAt.calls (a0_0 : Int) (a0_1 : Int) (a1 : Int) (r : Int) (w : World) (h : impl_farAt.f a0_0 a0_1 a1 = some r) :
  Calls Tryz.prog 47 #[.agg #[.int .i64 a0_0, .int .i64 a0_1], .int .i64 a1] w fun e w' => e = .returned (.int .i64 r) ∧ Below w.heap.size w w' := by
 have hu35 := Tryz.underlying35
 have HB := A_ (Below.refl w.heap.size w)
 have H : (some (wrap64 (a0_0 + (wrap64 (a0_1 * a1))))) = some r := h
 clear h
 obtain rfl := Option.some.inj H
 go_enter Tryz.func47, Tryz.ntmps47
 go_wp2_with (first | ((with_reducible refine gate_dst (N := 2) rfl ?_); refine be_ 2 #[.int .i64 a0_0, .int .i64 a0_1] 35 ?_; intro gb261 hg w3 hbox hb; have BK261 := A_ hbox; have GW261 := A_ (bz_ (w := w) hg); have GE261 := A_ (bz_ (w := w) hg); replace HB := A_ (below_step bw_ hb); clear hb hbox hg; have hcz4_0 := hz_ BK261.out 0 (.int .i64 a0_0); have hcz4_1 := hz_ BK261.out 1 (.int .i64 a0_1); have hfz4_0 := blk_frozen BK261.out 0; have hfz4_1 := blk_frozen BK261.out 1))
 go_ret
 exact ⟨rt_, bw_⟩

/-! ### impl_onTrack: function 52 -/
def impl_onTrack.f (a0 : Int) (l1 : List (S35)) : Option (Bool) := (impl_AreRunners.f a0 l1).bind fun t262 => (some t262)
set_option maxHeartbeats 8000000 in
set_option maxRecDepth 100000 in
theorem impl_onTrack.calls (a0 : Int) (A1 : Option Addr) (c1 : Nat) (l1 : List (S35)) (r : Bool) (w : World) (hr1 : Kd.C k35 w A1 l1.length l1) (hc1 : l1.length ≤ c1) (h : impl_onTrack.f a0 l1 = some r) :
  Calls Tryz.prog 52 #[.int .i64 a0, .slice A1 l1.length c1] w fun e w' => e = .returned (.bool r) ∧ Below w.heap.size w w' := by
 have HR1 := A_ hr1
 have HC1 := A_ hc1
 clear hr1 hc1
 have HB := A_ (Below.refl w.heap.size w)
 have H : ((impl_AreRunners.f a0 l1).bind fun t262 => (some t262)) = some r := h
 clear h
 replace H := Option.bind_eq_some_iff.mp H
 obtain ⟨t262, A30, H⟩ := H
 replace H : (some t262) = some r := H
 have A3 := A_ A30
 clear A30
 obtain rfl := Option.some.inj H
 go_enter Tryz.func52, Tryz.ntmps52
 go_wp2_with (first | ((with_reducible refine gate_callee (f := 42) rfl ?_); refine gl_ (some 7) Tryz.func42 #[.int .i64 a0, .slice A1 l1.length c1] ?_; (with_reducible refine (impl_AreRunners.calls a0 _ _ l1 t262 _ ?side1 ?side2 A3.out).mono ?_); (case side1 => repeat (first | exact HR1.out | (with_reducible refine Kd.C_alloc ?_ _) | (with_reducible refine Kd.C_drewN ?_ _) | (with_reducible refine Kd.C_drew ?_))); (case side2 => exact HC1.out); rintro e w4 ⟨rfl, hb⟩; refine ⟨_, rfl, ?_⟩; replace HB := A_ (below_step bw_ hb); (try clear hb)))
 go_ret
 exact ⟨rt_, bw_⟩

/-! ### impl_LeadBetween: function 10 -/
def impl_LeadBetween.j0 : Nat → Int → Bool → Int → Int → Int → Int → Option (Int × Bool)
  | 0, _, _, _, _, _, _ => none
  | k + 1, x3, x20, x264000, x264001, x265000, x265001 => if x20 = true then (some (0, false)) else ((impl_farAt.f x264000 x264001 x3).bind fun t270 => ((impl_farAt.f x265000 x265001 x3).bind fun t271 => (some (wrap64 (t270 - t271), true))))
def impl_LeadBetween.f (k : Nat) (a0 : Int) (a1_0 : Int) (a1_1 : Int) (a2_0 : Int) (a2_1 : Int) (a3 : Int) : Option (Int × Bool) := (impl_onTrack.f a0 (([(⟨a1_0, a1_1⟩ : S35), (⟨a2_0, a2_1⟩ : S35)] : List (S35)))).bind fun t268 => (if t268 = true then ((impl_isRunTime.f a3).bind fun t269 => (impl_LeadBetween.j0 k a3 (!t269) a1_0 a1_1 a2_0 a2_1)) else (impl_LeadBetween.j0 k a3 true a1_0 a1_1 a2_0 a2_1))


def impl_LeadBetween.T3 : Bool × List (List Nat × List Nat) := (true, [([], []), ([], []), ([0, 1], [0, 1]), ([], []), ([], []), ([3, 4, 2], [3, 4]), ([2, 5], [2, 5]), ([6, 5, 0, 1, 2, 3, 4, 5, 6], [6]), ([7, 0, 1, 2, 3, 4, 5, 6, 7], [])])
def impl_LeadBetween.B3 : List Nat := [0, 0, 3, 0, 0, 31, 63, 127, 255]
theorem impl_LeadBetween.tab3 : rtab .any (opsOf Tryz.f10 3) = impl_LeadBetween.T3 := by kernel_rfl
theorem impl_LeadBetween.bits3 : waitsOk impl_LeadBetween.T3.2 impl_LeadBetween.B3 = true := by kernel_rfl
set_option maxHeartbeats 8000000 in
set_option maxRecDepth 100000 in
theorem impl_LeadBetween.calls (k : Nat) (a0 : Int) (a1_0 : Int) (a1_1 : Int) (a2_0 : Int) (a2_1 : Int) (a3 : Int) (r1 : Int) (r2 : Bool) (w : World) (h : impl_LeadBetween.f k a0 a1_0 a1_1 a2_0 a2_1 a3 = some (r1, r2)) :
  Calls Tryz.prog 10 #[.int .i64 a0, .agg #[.int .i64 a1_0, .int .i64 a1_1], .agg #[.int .i64 a2_0, .int .i64 a2_1], .int .i64 a3] w fun e w' => e = .returned (.tuple #[.int .i64 r1, .bool r2]) ∧ Below w.heap.size w w' := by
 have hu35 := Tryz.underlying35
 have HB := A_ (Below.refl w.heap.size w)
 have H := h
 unfold impl_LeadBetween.f at H
 clear h
 have HC5 := A_ H
 clear H
 go_enter Tryz.func10, Tryz.ntmps10
 go_upto_region 1 with (first | ((with_reducible refine gate_dst (N := 5) rfl ?_); refine be_ 5 #[.int .i64 a1_0, .int .i64 a1_1] 35 ?_; intro gb263 hg w6 hbox hb; have BK263 := A_ hbox; have GW263 := A_ (bz_ (w := w) hg); have GE263 := A_ (bz_ (w := w) hg); replace HB := A_ (below_step bw_ hb); clear hb hbox hg) | ((with_reducible refine gate_dst (N := 6) rfl ?_); refine be_ 6 #[.int .i64 a2_0, .int .i64 a2_1] 35 ?_; intro gb264 hg w7 hbox hb; have BK264 := A_ hbox; have GW264 := A_ (bz_ (w := w) hg); have GE264 := A_ (bz_ (w := w) hg); have NB263_264 := A_ (nl_ BK263.out hg); have NB264_263 := A_ (ng_ BK263.out hg); replace HB := A_ (below_step bw_ hb); replace BK263 := A_ (bb_ BK263.out hb); clear hb hbox hg))
 (try simp only [Act.put, List.setIfInBounds_toArray, List.set_cons_zero, List.set_cons_succ])
 go_cut [20] (fun v20 wc => ∃ (kq : Nat) (x20_4 : Bool), v20 = .bool x20_4 ∧ Aside0 (impl_LeadBetween.j0 kq a3 x20_4 a1_0 a1_1 a2_0 a2_1 = some (r1, r2)) ∧ Aside0 (kq ≤ k) ∧ Aside0 (wc.heap[gb263]? = some (.cells #[.int .i64 a1_0, .int .i64 a1_1] 35 (0, 0))) ∧ Aside0 (wc.heap[gb264]? = some (.cells #[.int .i64 a2_0, .int .i64 a2_1] 35 (0, 0))) ∧ Aside0 (Below w.heap.size w wc))
 case first =>
  have H := HC5.out
  clear HC5
  obtain ⟨y265, hy265⟩ : ∃ y_ : List (S35), y_ = (([(⟨a1_0, a1_1⟩ : S35), (⟨a2_0, a2_1⟩ : S35)] : List (S35))) := ⟨_, rfl⟩
  replace H : ((impl_onTrack.f a0 y265).bind fun t268 => (if t268 = true then ((impl_isRunTime.f a3).bind fun t269 => (impl_LeadBetween.j0 k a3 (!t269) a1_0 a1_1 a2_0 a2_1)) else (impl_LeadBetween.j0 k a3 true a1_0 a1_1 a2_0 a2_1))) = some (r1, r2) := by first | (rw [hy265]; with_reducible exact H) | (have H2_ := (Option.bind_some _ _).symm.trans H; rw [hy265]; with_reducible exact H2_) | (have H2_ := (Option.bind_some _ _).symm.trans H; with_reducible exact H2_) | with_reducible exact H | (rw [hy265]; exact H) | exact H
  have Ny265 := A_ hy265
  clear hy265
  replace H := ob_ H
  obtain ⟨t268, A8, H⟩ := H
  (try dsimp only at H)
  by_cases c9 : t268 = true
  ·
   subst c9
   rw [if_pos rfl] at H
   replace H := ob_ H
   obtain ⟨t269, A10, H⟩ := H
   (try dsimp only at H)
   have H' := A_ H
   clear H
   have hnb11 := NB263_264.out
   have hnc11 := NB264_263.out
   have hcz12_0 := hz_ BK263.out 0 (.int .i64 a1_0)
   have hcz12_1 := hz_ BK263.out 1 (.int .i64 a1_1)
   have hfz12_0 := blk_frozen BK263.out 0
   have hfz12_1 := blk_frozen BK263.out 1
   have hcz13_0 := hz_ BK264.out 0 (.int .i64 a2_0)
   have hcz13_1 := hz_ BK264.out 1 (.int .i64 a2_1)
   have hfz13_0 := blk_frozen BK264.out 0
   have hfz13_1 := blk_frozen BK264.out 1
   go_wp2_with (first | ((with_reducible refine gate_dst (N := 13) rfl ?_); refine Kd.R_lit k35 _ 35 ?hg (N := 13) ?hd (xs := ([(⟨a1_0, a1_1⟩ : S35), (⟨a2_0, a2_1⟩ : S35)] : List (S35))) (inner := [.int .i64 a1_0, .int .i64 a1_1, .int .i64 a2_0, .int .i64 a2_1]) (ok := fun _ => True) (okp := fun _ => True) ?hr ?hp (fun _ hk => hk) trivial (Below.refl _ _) (Nat.le_refl _) (by simp) ?_; (case hd => rfl); (case hg => rfl); (case hr => first | (go_simp; done) | (go_simp; rfl)); (case hp => exact (Reps.c2 (show Kd.M k35 _ _ _ (⟨a1_0, a1_1⟩ : S35) [.int .i64 a1_0, .int .i64 a1_1] from (k35_mkM _ _ _ (⟨a1_0, a1_1⟩ : S35) )) (Reps.c2 (show Kd.M k35 _ _ _ (⟨a2_0, a2_1⟩ : S35) [.int .i64 a2_0, .int .i64 a2_1] from (k35_mkM _ _ _ (⟨a2_0, a2_1⟩ : S35) )) (Reps.none _ _)))); intro v266 w14 ho15 hb hg_ hnew_; clear hg_ hnew_; (first | rw [← Ny265.out] at ho15 | (simp only [Int.reduceToNat] at ho15; rw [← Ny265.out] at ho15)); have HO267 := A_ (Kd.R_lower (Kd.R_newB (Kd.R_newB ho15 (g := gb263) (o := .cells #[.int .i64 a1_0, .int .i64 a1_1] 35 (0, 0)) bk_) (g := gb264) (o := .cells #[.int .i64 a2_0, .int .i64 a2_1] 35 (0, 0)) bk_) (below_size bw_)); replace HB := A_ (below_step bw_ hb); replace BK263 := A_ (bb_ BK263.out hb); replace BK264 := A_ (bb_ BK264.out hb); clear hb ho15; obtain ⟨Ao16, co16, eo16⟩ := Kd.R_slice HO267.out; subst eo16) | ((with_reducible refine gate_callee (f := 52) rfl ?_); refine gl_ (some 14) Tryz.func52 #[.int .i64 a0, .slice Ao16 y265.length co16] ?_; (with_reducible refine (impl_onTrack.calls a0 _ _ y265 true _ ?side1 ?side2 A8.out).mono ?_); (case side1 => repeat (first | exact (Kd.R_reads' HO267.out).2.2 | (with_reducible refine Kd.C_alloc ?_ _) | (with_reducible refine Kd.C_drewN ?_ _) | (with_reducible refine Kd.C_drew ?_))); (case side2 => exact (Kd.R_reads' HO267.out).2.1); rintro e w17 ⟨rfl, hb⟩; refine ⟨_, rfl, ?_⟩; replace HB := A_ (below_step bw_ hb); replace BK263 := A_ (bb_ BK263.out hb); replace BK264 := A_ (bb_ BK264.out hb); replace HO267 := A_ (Kd.R_below (by (with_reducible repeat (first | apply Kd.R_alloc | apply Kd.R_drewN | apply Kd.R_drew)); exact HO267.out) hb); (try clear hb)) | (go_at_call 43; (with_reducible refine (impl_isRunTime.calls a3 t269 _ A10.out).mono ?_); rintro e w' ⟨rfl, ⟨nd, rfl⟩⟩))
   go_meet
   case rel => exact ⟨_, (!t269), (rs_), H', ⟨by first | omega | exact Nat.le_refl _⟩, ⟨bk_⟩, ⟨bk_⟩, ⟨bw_⟩⟩
  ·
   replace c9 := Bool.eq_false_iff.mpr c9
   subst c9
   rw [if_neg (show ¬ (false = true) by decide)] at H
   have H' := A_ H
   clear H
   have hnb18 := NB263_264.out
   have hnc18 := NB264_263.out
   have hcz19_0 := hz_ BK263.out 0 (.int .i64 a1_0)
   have hcz19_1 := hz_ BK263.out 1 (.int .i64 a1_1)
   have hfz19_0 := blk_frozen BK263.out 0
   have hfz19_1 := blk_frozen BK263.out 1
   have hcz20_0 := hz_ BK264.out 0 (.int .i64 a2_0)
   have hcz20_1 := hz_ BK264.out 1 (.int .i64 a2_1)
   have hfz20_0 := blk_frozen BK264.out 0
   have hfz20_1 := blk_frozen BK264.out 1
   go_wp2_with (first | ((with_reducible refine gate_dst (N := 13) rfl ?_); refine Kd.R_lit k35 _ 35 ?hg (N := 13) ?hd (xs := ([(⟨a1_0, a1_1⟩ : S35), (⟨a2_0, a2_1⟩ : S35)] : List (S35))) (inner := [.int .i64 a1_0, .int .i64 a1_1, .int .i64 a2_0, .int .i64 a2_1]) (ok := fun _ => True) (okp := fun _ => True) ?hr ?hp (fun _ hk => hk) trivial (Below.refl _ _) (Nat.le_refl _) (by simp) ?_; (case hd => rfl); (case hg => rfl); (case hr => first | (go_simp; done) | (go_simp; rfl)); (case hp => exact (Reps.c2 (show Kd.M k35 _ _ _ (⟨a1_0, a1_1⟩ : S35) [.int .i64 a1_0, .int .i64 a1_1] from (k35_mkM _ _ _ (⟨a1_0, a1_1⟩ : S35) )) (Reps.c2 (show Kd.M k35 _ _ _ (⟨a2_0, a2_1⟩ : S35) [.int .i64 a2_0, .int .i64 a2_1] from (k35_mkM _ _ _ (⟨a2_0, a2_1⟩ : S35) )) (Reps.none _ _)))); intro v266 w21 ho22 hb hg_ hnew_; clear hg_ hnew_; (first | rw [← Ny265.out] at ho22 | (simp only [Int.reduceToNat] at ho22; rw [← Ny265.out] at ho22)); have HO267 := A_ (Kd.R_lower (Kd.R_newB (Kd.R_newB ho22 (g := gb263) (o := .cells #[.int .i64 a1_0, .int .i64 a1_1] 35 (0, 0)) bk_) (g := gb264) (o := .cells #[.int .i64 a2_0, .int .i64 a2_1] 35 (0, 0)) bk_) (below_size bw_)); replace HB := A_ (below_step bw_ hb); replace BK263 := A_ (bb_ BK263.out hb); replace BK264 := A_ (bb_ BK264.out hb); clear hb ho22; obtain ⟨Ao23, co23, eo23⟩ := Kd.R_slice HO267.out; subst eo23) | ((with_reducible refine gate_callee (f := 52) rfl ?_); refine gl_ (some 14) Tryz.func52 #[.int .i64 a0, .slice Ao23 y265.length co23] ?_; (with_reducible refine (impl_onTrack.calls a0 _ _ y265 false _ ?side1 ?side2 A8.out).mono ?_); (case side1 => repeat (first | exact (Kd.R_reads' HO267.out).2.2 | (with_reducible refine Kd.C_alloc ?_ _) | (with_reducible refine Kd.C_drewN ?_ _) | (with_reducible refine Kd.C_drew ?_))); (case side2 => exact (Kd.R_reads' HO267.out).2.1); rintro e w24 ⟨rfl, hb⟩; refine ⟨_, rfl, ?_⟩; replace HB := A_ (below_step bw_ hb); replace BK263 := A_ (bb_ BK263.out hb); replace BK264 := A_ (bb_ BK264.out hb); replace HO267 := A_ (Kd.R_below (by (with_reducible repeat (first | apply Kd.R_alloc | apply Kd.R_drewN | apply Kd.R_drew)); exact HO267.out) hb); (try clear hb)))
   go_meet
   case rel => exact ⟨_, (true), (rs_), H', ⟨by first | omega | exact Nat.le_refl _⟩, ⟨bk_⟩, ⟨bk_⟩, ⟨bw_⟩⟩
 case rest =>
  clear HC5
  try clear c1
  try clear c2
  try clear p2
  try clear c5
  try clear c9
  try clear c10
  try clear c11
  try clear c18
  try clear hcz12_0
  try clear hcz12_1
  try clear hcz13_0
  try clear hcz13_1
  try clear hcz19_0
  try clear hcz19_1
  try clear hcz20_0
  try clear hcz20_1
  try clear hfz12_0
  try clear hfz12_1
  try clear hfz13_0
  try clear hfz13_1
  try clear hfz19_0
  try clear hfz19_1
  try clear hfz20_0
  try clear hfz20_1
  obtain ⟨kq, x20_4, rfl, HA, HJ4, BK263, BK264, HB⟩ := hcut
  cases kq with
    | zero => exact absurd HA.out (by simp [impl_LeadBetween.j0])
    | succ kj4 =>
   have H := HA.out
   clear HA
   simp only [impl_LeadBetween.j0] at H
   by_cases c25 : x20_4 = true
   ·
    subst c25
    rw [if_pos rfl] at H
    simp only [Option.some.injEq, Prod.mk.injEq] at H
    obtain ⟨rfl, rfl⟩ := H
    go_wp2
    go_ret2
    exact ⟨rt_, bw_⟩
   ·
    replace c25 := Bool.eq_false_iff.mpr c25
    subst c25
    rw [if_neg (show ¬ (false = true) by decide)] at H
    replace H := ob_ H
    obtain ⟨t270, A26, H⟩ := H
    (try dsimp only at H)
    replace H := ob_ H
    obtain ⟨t271, A27, H⟩ := H
    (try dsimp only at H)
    simp only [Option.some.injEq, Prod.mk.injEq] at H
    obtain ⟨rfl, rfl⟩ := H
    try go_wp2
    replace BK263 := A_ (blk_drew BK263.out)
    replace BK264 := A_ (blk_drew BK264.out)
    replace HB := A_ (below_drew1 HB.out)
    refine start_ (n := 9) (S := fun w' => w'.cell? ⟨gb263, 0, none⟩ = some (.int .i64 a1_0) ∧ w'.cell? ⟨gb263, 1, none⟩ = some (.int .i64 a1_1) ∧ w'.cell? ⟨gb264, 0, none⟩ = some (.int .i64 a2_0) ∧ w'.cell? ⟨gb264, 1, none⟩ = some (.int .i64 a2_1)) (ds := []) #[false, false, false, false, false, false, false, false, false] (by kernel_rfl) rfl rfl ⟨(blk_cell BK263.out 0).trans rfl, (blk_cell BK263.out 1).trans rfl, (blk_cell BK264.out 0).trans rfl, (blk_cell BK264.out 1).trans rfl⟩ (fun hHeld => ?_); refine with_tabW impl_LeadBetween.tab3 impl_LeadBetween.bits3 (fun HT_ HW_ => ?_)
    generalize wc.drew = w28 at BK263 BK264 HB hHeld ⊢
    refine pu_ 1 22 9 2 ?_
    refine pu_ 4 25 9 18 ?_
    refine tk_ 0 21 9 19 hHeld ?_
    refine tk_ 3 24 9 27 hHeld ?_
    refine one_ (i := 2) (N := some 23) (pm_ 9 31) rfl rfl (one_of HT_.out (by kernel_rfl)) (by decide) (fun K hK => ?_)
    refine goes_ Tryz.func47 (by kernel_rfl) rfl #[.agg #[.int .i64 a1_0, .int .i64 a1_1], .int .i64 a3] (by rfl) rfl rfl (by (try simp only [List.map_toArray, List.map_cons, List.map_nil]); first | done | rfl | (simp only [List.length_drop, List.length_take]; rfl)) ?_
    with_reducible refine (impl_farAt.calls a1_0 a1_1 a3 t270 _ A26.out).mono ?_
    rintro e w29 ⟨rfl, hb⟩
    refine ⟨_, rfl, ?_⟩
    replace HB := A_ (below_step bw_ hb)
    replace BK263 := A_ (bb_ BK263.out hb)
    replace BK264 := A_ (bb_ BK264.out hb)
    (try clear hb)
    (try clear hb2)
    (try clear hk)
    (try clear hi)
    refine hK.out _ _ ⟨(blk_cell BK263.out 0).trans rfl, (blk_cell BK263.out 1).trans rfl, (blk_cell BK264.out 0).trans rfl, (blk_cell BK264.out 1).trans rfl⟩ (fun hHeld => ?_)
    clear hK K
    refine norm_ (a' := ?_) ?_ ?_
    rotate_left
    ·
     show Act.put _ (some 23) _ = _
     simp only [Act.put, List.setIfInBounds_toArray, List.set_cons_zero, List.set_cons_succ, i64_w, i32_w]
     rfl
    refine one_ (i := 5) (N := some 26) (pm_ 9 63) rfl rfl (one_of HT_.out (by kernel_rfl)) (by decide) (fun K hK => ?_)
    refine goes_ Tryz.func47 (by kernel_rfl) rfl #[.agg #[.int .i64 a2_0, .int .i64 a2_1], .int .i64 a3] (by rfl) rfl rfl (by (try simp only [List.map_toArray, List.map_cons, List.map_nil]); first | done | rfl | (simp only [List.length_drop, List.length_take]; rfl)) ?_
    with_reducible refine (impl_farAt.calls a2_0 a2_1 a3 t271 _ A27.out).mono ?_
    rintro e w30 ⟨rfl, hb⟩
    refine ⟨_, rfl, ?_⟩
    replace HB := A_ (below_step bw_ hb)
    replace BK263 := A_ (bb_ BK263.out hb)
    replace BK264 := A_ (bb_ BK264.out hb)
    (try clear hb)
    (try clear hb2)
    (try clear hk)
    (try clear hi)
    refine hK.out _ _ ⟨(blk_cell BK263.out 0).trans rfl, (blk_cell BK263.out 1).trans rfl, (blk_cell BK264.out 0).trans rfl, (blk_cell BK264.out 1).trans rfl⟩ (fun hHeld => ?_)
    clear hK K
    refine norm_ (a' := ?_) ?_ ?_
    rotate_left
    ·
     show Act.put _ (some 26) _ = _
     simp only [Act.put, List.setIfInBounds_toArray, List.set_cons_zero, List.set_cons_succ, i64_w, i32_w]
     rfl
    refine pu_ 6 27 9 127 ?_
    refine pu_ 7 8 9 255 ?_
    refine pu_ 8 9 9 511 ?_
    refine done_ (done_of HT_.out (by kernel_rfl)) ?_
    try go_wp2
    go_ret2
    exact ⟨rt_, bw_⟩

/-! ### spec_DrawPlaceOnTrack: function 53 -/
def spec_DrawPlaceOnTrack.f (l0 : List Int) : Option (Int × Int × Int × Int) := (spec_l1Cur_lap.f l0 0 0).bind fun bt274 => ((spec_l1Cur_runner.f l0 bt274.2.1 bt274.2.2 bt274.1).bind fun bt277 => ((spec_l1Cur_moment.f l0 bt277.2.2.1 bt277.2.2.2).bind fun bt281 => (some (bt274.1, bt277.1, bt277.2.1, bt281.1))))
set_option maxHeartbeats 8000000 in
set_option maxRecDepth 100000 in
theorem spec_DrawPlaceOnTrack.calls (A0 : Option Addr) (c0 : Nat) (l0 : List Int) (r1 : Int) (r2 : Int) (r3 : Int) (r4 : Int) (w : World) (hr0 : Kd.C (Kd.int .u8) w A0 l0.length l0) (hc0 : l0.length ≤ c0) (h : spec_DrawPlaceOnTrack.f l0 = some (r1, r2, r3, r4)) :
  Calls Tryz.prog 53 #[.slice A0 l0.length c0] w fun e w' => e = .returned (.tuple #[.int .i64 r1, .agg #[.int .i64 r2, .int .i64 r3], .int .i64 r4]) ∧ Below w.heap.size w w' := by
 have hu35 := Tryz.underlying35
 have hu60 := Tryz.underlying60
 have HR0 := A_ hr0
 have HC0 := A_ hc0
 clear hr0 hc0
 have HB := A_ (Below.refl w.heap.size w)
 have H := h
 unfold spec_DrawPlaceOnTrack.f at H
 clear h
 replace H := ob_ H
 obtain ⟨⟨t274, t275, t276⟩, A2, H⟩ := H
 (try dsimp only at H)
 replace H := ob_ H
 obtain ⟨⟨t277, t278, t279, t280⟩, A3, H⟩ := H
 (try dsimp only at H)
 replace H := ob_ H
 obtain ⟨⟨t281, t282, t283⟩, A4, H⟩ := H
 (try dsimp only at H)
 simp only [Option.some.injEq, Prod.mk.injEq] at H
 obtain ⟨rfl, rfl, rfl, rfl⟩ := H
 go_enter Tryz.func53, Tryz.ntmps53
 go_wp2_with (first | ((with_reducible refine gate_dst (N := 3) rfl ?_); refine be_ 3 #[.int .i64 0, .int .i64 0] 35 ?_; intro gb272 hg w5 hbox hb; have BK272 := A_ hbox; have GW272 := A_ (bz_ (w := w) hg); have GE272 := A_ (bz_ (w := w) hg); replace HB := A_ (below_step bw_ hb); clear hb hbox hg) | ((with_reducible refine gate_dst (N := 9) rfl ?_); refine be_ 9 #[.slice A0 l0.length c0, .int .i64 0, .int .u64 0] 60 ?_; intro gb273 hg w6 hbox hb; have HI273 := A_ ((⟨_, _, hbox, (by rw [hg]; exact (below_size bw_) : w.heap.size ≤ gb273), HR0.out⟩ : IsS60 w _ gb273 l0 0 0)); have GW273 := A_ (bz_ (w := w) hg); have GE273 := A_ (bz_ (w := w) hg); have NB272_273 := A_ (nl_ BK272.out hg); have NB273_272 := A_ (ng_ BK272.out hg); replace HB := A_ (below_step bw_ hb); replace BK272 := A_ (bb_ BK272.out hb); clear hb hbox hg) | ((with_reducible refine gate_callee (f := 81) rfl ?_); refine gl_ (some 11) Tryz.func81 #[.pointer (some ⟨gb273, 0, none⟩)] ?_; (with_reducible refine (spec_l1Cur_lap.calls gb273 l0 0 0 t274 t275 t276 w _ ?side1 ?side2 A2.out).mono ?_); (case side1 => repeat (first | (with_reducible first | exact HI273.out | apply IsS60.alloc | apply IsS60.drewN | apply IsS60.drew | apply IsS60.set_1 | apply IsS60.set_2 | refine IsS60.far ?_ NB273_272.out _) | exact HI273.out)); (case side2 => repeat (first | (with_reducible first | exact HB.out | apply below_alloc | apply pw_below_drewN | apply below_drew1 | refine below_set ?_ (IsS60.ge HI273.out) | refine below_set ?_ GE272.out) | exact HB.out)); rintro e w7 ⟨rfl, hi, hb, hk⟩; refine ⟨_, rfl, ?_⟩; replace BK272 := A_ (kb_ BK272.out hk NB272_273.out); replace HB := A_ (hb); replace HI273 := A_ (hi); (try clear hb hk hi)) | ((with_reducible refine gate_callee (f := 82) rfl ?_); refine gl_ (some 15) Tryz.func82 #[.pointer (some ⟨gb273, 0, none⟩), .int .i64 t274] ?_; (with_reducible refine (spec_l1Cur_runner.calls gb273 l0 t275 t276 t274 t277 t278 t279 t280 w _ ?side1 ?side2 A3.out).mono ?_); (case side1 => repeat (first | (with_reducible first | exact HI273.out | apply IsS60.alloc | apply IsS60.drewN | apply IsS60.drew | apply IsS60.set_1 | apply IsS60.set_2 | refine IsS60.far ?_ NB273_272.out _) | exact HI273.out)); (case side2 => repeat (first | (with_reducible first | exact HB.out | apply below_alloc | apply pw_below_drewN | apply below_drew1 | refine below_set ?_ (IsS60.ge HI273.out) | refine below_set ?_ GE272.out) | exact HB.out)); rintro e w8 ⟨rfl, hi, hb, hk⟩; refine ⟨_, rfl, ?_⟩; replace BK272 := A_ (kb_ BK272.out hk NB272_273.out); replace HB := A_ (hb); replace HI273 := A_ (hi); (try clear hb hk hi)) | ((with_reducible refine gate_callee (f := 41) rfl ?_); refine gl_ (some 17) Tryz.func41 #[.pointer (some ⟨gb273, 0, none⟩)] ?_; (with_reducible refine (spec_l1Cur_moment.calls gb273 l0 t279 t280 t281 t282 t283 w _ ?side1 ?side2 A4.out).mono ?_); (case side1 => repeat (first | (with_reducible first | exact HI273.out | apply IsS60.alloc | apply IsS60.drewN | apply IsS60.drew | apply IsS60.set_1 | apply IsS60.set_2 | refine IsS60.far ?_ NB273_272.out _) | exact HI273.out)); (case side2 => repeat (first | (with_reducible first | exact HB.out | apply below_alloc | apply pw_below_drewN | apply below_drew1 | refine below_set ?_ (IsS60.ge HI273.out) | refine below_set ?_ GE272.out) | exact HB.out)); rintro e w9 ⟨rfl, hi, hb, hk⟩; refine ⟨_, rfl, ?_⟩; replace BK272 := A_ (kb_ BK272.out hk NB272_273.out); replace HB := A_ (hb); replace HI273 := A_ (hi); (try clear hb hk hi); have hnb10 := NB272_273.out; have hnc10 := NB273_272.out; have hcz11_0 := hz_ BK272.out 0 (.int .i64 0); have hcz11_1 := hz_ BK272.out 1 (.int .i64 0); have hfz11_0 := blk_frozen BK272.out 0; have hfz11_1 := blk_frozen BK272.out 1))
 refine bodyPost_ret (results_list (rs := [.tmp 2, .cell 3 35, .tmp 4]) rfl (by simp) (.tmp (.cell gb272 35 #[.int .i64 t277, .int .i64 t278] (0, 0) _ rfl (by (with_reducible repeat (first | refine blk_drewN ?_ _ | refine blk_drew ?_ | refine blk_alloc ?_ _)); refine blk_put (cs := #[.int .i64 t277, .int .i64 0]) ?_ 1 _ rfl; (with_reducible repeat (first | refine blk_drewN ?_ _ | refine blk_drew ?_ | refine blk_alloc ?_ _)); refine blk_put (cs := #[.int .i64 0, .int .i64 0]) ?_ 0 _ rfl; (with_reducible repeat (first | refine blk_drewN ?_ _ | refine blk_drew ?_ | refine blk_alloc ?_ _)); exact BK272.out) Tryz.underlying35 rfl (by kernel_rfl) (.tmp .nil)))) rfl ?_
 exact ⟨rt_, by repeat (first | (with_reducible first | exact HB.out | apply below_alloc | apply pw_below_drewN | apply below_drew1 | refine below_set ?_ (IsS60.ge HI273.out) | refine below_set ?_ GE272.out) | exact HB.out)⟩

/-! ### spec_DrawLapsAt: function 11 -/
def spec_DrawLapsAt.f (l0 : List Int) : Option (Int × Int × Int × Int) := (spec_DrawPlaceOnTrack.f l0).bind fun bt285 => (some (bt285.1, bt285.2.1, bt285.2.2.1, bt285.2.2.2))
set_option maxHeartbeats 8000000 in
set_option maxRecDepth 100000 in
theorem spec_DrawLapsAt.calls (A0 : Option Addr) (c0 : Nat) (l0 : List Int) (r1 : Int) (r2 : Int) (r3 : Int) (r4 : Int) (w : World) (hr0 : Kd.C (Kd.int .u8) w A0 l0.length l0) (hc0 : l0.length ≤ c0) (h : spec_DrawLapsAt.f l0 = some (r1, r2, r3, r4)) :
  Calls Tryz.prog 11 #[.slice A0 l0.length c0] w fun e w' => e = .returned (.tuple #[.int .i64 r1, .agg #[.int .i64 r2, .int .i64 r3], .int .i64 r4]) ∧ Below w.heap.size w w' := by
 have hu35 := Tryz.underlying35
 have HR0 := A_ hr0
 have HC0 := A_ hc0
 clear hr0 hc0
 have HB := A_ (Below.refl w.heap.size w)
 have H := h
 unfold spec_DrawLapsAt.f at H
 clear h
 replace H := ob_ H
 obtain ⟨⟨t285, t286, t287, t288⟩, A2, H⟩ := H
 (try dsimp only at H)
 simp only [Option.some.injEq, Prod.mk.injEq] at H
 obtain ⟨rfl, rfl, rfl, rfl⟩ := H
 go_enter Tryz.func11, Tryz.ntmps11
 go_wp2_with (first | ((with_reducible refine gate_dst (N := 3) rfl ?_); refine be_ 3 #[.int .i64 0, .int .i64 0] 35 ?_; intro gb284 hg w3 hbox hb; have BK284 := A_ hbox; have GW284 := A_ (bz_ (w := w) hg); have GE284 := A_ (bz_ (w := w) hg); replace HB := A_ (below_step bw_ hb); clear hb hbox hg) | ((with_reducible refine gate_callee (f := 53) rfl ?_); refine gl_ (some 6) Tryz.func53 #[.slice A0 l0.length c0] ?_; (with_reducible refine (spec_DrawPlaceOnTrack.calls _ _ l0 t285 t286 t287 t288 _ ?side1 ?side2 A2.out).mono ?_); (case side1 => repeat (first | exact (Kd.C_below HR0.out HB.out) | (with_reducible refine Kd.C_alloc ?_ _) | (with_reducible refine Kd.C_drewN ?_ _) | (with_reducible refine Kd.C_drew ?_))); (case side2 => exact HC0.out); rintro e w4 ⟨rfl, hb⟩; refine ⟨_, rfl, ?_⟩; replace HB := A_ (below_step bw_ hb); replace BK284 := A_ (bb_ BK284.out hb); (try clear hb); have hcz5_0 := hz_ BK284.out 0 (.int .i64 0); have hcz5_1 := hz_ BK284.out 1 (.int .i64 0); have hfz5_0 := blk_frozen BK284.out 0; have hfz5_1 := blk_frozen BK284.out 1))
 refine bodyPost_ret (results_list (rs := [.tmp 2, .cell 3 35, .tmp 4]) rfl (by simp) (.tmp (.cell gb284 35 #[.int .i64 t286, .int .i64 t287] (0, 0) _ rfl (by (with_reducible repeat (first | refine blk_drewN ?_ _ | refine blk_drew ?_ | refine blk_alloc ?_ _)); refine blk_put (cs := #[.int .i64 t286, .int .i64 0]) ?_ 1 _ rfl; (with_reducible repeat (first | refine blk_drewN ?_ _ | refine blk_drew ?_ | refine blk_alloc ?_ _)); refine blk_put (cs := #[.int .i64 0, .int .i64 0]) ?_ 0 _ rfl; (with_reducible repeat (first | refine blk_drewN ?_ _ | refine blk_drew ?_ | refine blk_alloc ?_ _)); exact BK284.out) Tryz.underlying35 rfl (by kernel_rfl) (.tmp .nil)))) rfl ?_
 exact ⟨rt_, bw_⟩

/-! ### impl_LapsAt: function 12 -/
def impl_LapsAt.f (a0 : Int) (a1_0 : Int) (a1_1 : Int) (a2 : Int) : Option (Int × Bool) := (impl_onTrack.f a0 (([(⟨a1_0, a1_1⟩ : S35)] : List (S35)))).bind fun t293 => (if t293 = true then ((impl_isRunTime.f a2).bind fun t294 => (if t294 = true then (if a0 = 0 then (none) else (some (wrap64 (Int.tdiv (wrap64 (a1_1 * a2)) a0), true))) else (some (0, false)))) else (some (0, false)))
set_option maxHeartbeats 8000000 in
set_option maxRecDepth 100000 in
theorem impl_LapsAt.calls (a0 : Int) (a1_0 : Int) (a1_1 : Int) (a2 : Int) (r1 : Int) (r2 : Bool) (w : World) (h : impl_LapsAt.f a0 a1_0 a1_1 a2 = some (r1, r2)) :
  Calls Tryz.prog 12 #[.int .i64 a0, .agg #[.int .i64 a1_0, .int .i64 a1_1], .int .i64 a2] w fun e w' => e = .returned (.tuple #[.int .i64 r1, .bool r2]) ∧ Below w.heap.size w w' := by
 have hu35 := Tryz.underlying35
 have HB := A_ (Below.refl w.heap.size w)
 have H := h
 unfold impl_LapsAt.f at H
 clear h
 obtain ⟨y290, hy290⟩ : ∃ y_ : List (S35), y_ = (([(⟨a1_0, a1_1⟩ : S35)] : List (S35))) := ⟨_, rfl⟩
 replace H : ((impl_onTrack.f a0 y290).bind fun t293 => (if t293 = true then ((impl_isRunTime.f a2).bind fun t294 => (if t294 = true then (if a0 = 0 then (none) else (some (wrap64 (Int.tdiv (wrap64 (a1_1 * a2)) a0), true))) else (some (0, false)))) else (some (0, false)))) = some (r1, r2) := by first | (rw [hy290]; with_reducible exact H) | (have H2_ := (Option.bind_some _ _).symm.trans H; rw [hy290]; with_reducible exact H2_) | (have H2_ := (Option.bind_some _ _).symm.trans H; with_reducible exact H2_) | with_reducible exact H | (rw [hy290]; exact H) | exact H
 have Ny290 := A_ hy290
 clear hy290
 replace H := ob_ H
 obtain ⟨t293, A4, H⟩ := H
 (try dsimp only at H)
 by_cases c5 : t293 = true
 ·
  subst c5
  rw [if_pos rfl] at H
  replace H := ob_ H
  obtain ⟨t294, A6, H⟩ := H
  (try dsimp only at H)
  by_cases c7 : t294 = true
  ·
   subst c7
   rw [if_pos rfl] at H
   by_cases c8 : a0 = 0
   ·
    rw [if_pos c8] at H
    exact absurd H (by simp)
   ·
    rw [if_neg c8] at H
    have c8b0 : (a0 == 0) = false := beq_eq_false_iff_ne.mpr c8
    have c8b1 : (a0 != 0) = true := bne_iff_ne.mpr c8
    simp only [Option.some.injEq, Prod.mk.injEq] at H
    obtain ⟨rfl, rfl⟩ := H
    go_enter Tryz.func12, Tryz.ntmps12
    go_wp2_with (first | ((with_reducible refine gate_dst (N := 4) rfl ?_); refine be_ 4 #[.int .i64 a1_0, .int .i64 a1_1] 35 ?_; intro gb289 hg w9 hbox hb; have BK289 := A_ hbox; have GW289 := A_ (bz_ (w := w) hg); have GE289 := A_ (bz_ (w := w) hg); replace HB := A_ (below_step bw_ hb); clear hb hbox hg; have hcz10_0 := hz_ BK289.out 0 (.int .i64 a1_0); have hcz10_1 := hz_ BK289.out 1 (.int .i64 a1_1); have hfz10_0 := blk_frozen BK289.out 0; have hfz10_1 := blk_frozen BK289.out 1) | ((with_reducible refine gate_dst (N := 10) rfl ?_); refine Kd.R_lit k35 _ 35 ?hg (N := 10) ?hd (xs := ([(⟨a1_0, a1_1⟩ : S35)] : List (S35))) (inner := [.int .i64 a1_0, .int .i64 a1_1]) (ok := fun _ => True) (okp := fun _ => True) ?hr ?hp (fun _ hk => hk) trivial (Below.refl _ _) (Nat.le_refl _) (by simp) ?_; (case hd => rfl); (case hg => rfl); (case hr => first | (go_simp; done) | (go_simp; rfl)); (case hp => exact (Reps.c2 (show Kd.M k35 _ _ _ (⟨a1_0, a1_1⟩ : S35) [.int .i64 a1_0, .int .i64 a1_1] from (k35_mkM _ _ _ (⟨a1_0, a1_1⟩ : S35) )) (Reps.none _ _))); intro v291 w11 ho12 hb hg_ hnew_; clear hg_ hnew_; (first | rw [← Ny290.out] at ho12 | (simp only [Int.reduceToNat] at ho12; rw [← Ny290.out] at ho12)); have HO292 := A_ (Kd.R_lower (Kd.R_newB ho12 (g := gb289) (o := .cells #[.int .i64 a1_0, .int .i64 a1_1] 35 (0, 0)) bk_) (below_size bw_)); replace HB := A_ (below_step bw_ hb); replace BK289 := A_ (bb_ BK289.out hb); clear hb ho12; obtain ⟨Ao13, co13, eo13⟩ := Kd.R_slice HO292.out; subst eo13) | ((with_reducible refine gate_callee (f := 52) rfl ?_); refine gl_ (some 11) Tryz.func52 #[.int .i64 a0, .slice Ao13 y290.length co13] ?_; (with_reducible refine (impl_onTrack.calls a0 _ _ y290 true _ ?side1 ?side2 A4.out).mono ?_); (case side1 => repeat (first | exact (Kd.R_reads' HO292.out).2.2 | (with_reducible refine Kd.C_alloc ?_ _) | (with_reducible refine Kd.C_drewN ?_ _) | (with_reducible refine Kd.C_drew ?_))); (case side2 => exact (Kd.R_reads' HO292.out).2.1); rintro e w14 ⟨rfl, hb⟩; refine ⟨_, rfl, ?_⟩; replace HB := A_ (below_step bw_ hb); replace BK289 := A_ (bb_ BK289.out hb); replace HO292 := A_ (Kd.R_below (by (with_reducible repeat (first | apply Kd.R_alloc | apply Kd.R_drewN | apply Kd.R_drew)); exact HO292.out) hb); (try clear hb)) | (go_at_call 43; (with_reducible refine (impl_isRunTime.calls a2 true _ A6.out).mono ?_); rintro e w' ⟨rfl, ⟨nd, rfl⟩⟩; have hcz15_0 := hz_ BK289.out 0 (.int .i64 a1_0); have hcz15_1 := hz_ BK289.out 1 (.int .i64 a1_1); have hfz15_0 := blk_frozen BK289.out 0; have hfz15_1 := blk_frozen BK289.out 1))
    go_ret2
    exact ⟨rt_, bw_⟩
  ·
   replace c7 := Bool.eq_false_iff.mpr c7
   subst c7
   rw [if_neg (show ¬ (false = true) by decide)] at H
   simp only [Option.some.injEq, Prod.mk.injEq] at H
   obtain ⟨rfl, rfl⟩ := H
   go_enter Tryz.func12, Tryz.ntmps12
   go_wp2_with (first | ((with_reducible refine gate_dst (N := 4) rfl ?_); refine be_ 4 #[.int .i64 a1_0, .int .i64 a1_1] 35 ?_; intro gb289 hg w16 hbox hb; have BK289 := A_ hbox; have GW289 := A_ (bz_ (w := w) hg); have GE289 := A_ (bz_ (w := w) hg); replace HB := A_ (below_step bw_ hb); clear hb hbox hg; have hcz17_0 := hz_ BK289.out 0 (.int .i64 a1_0); have hcz17_1 := hz_ BK289.out 1 (.int .i64 a1_1); have hfz17_0 := blk_frozen BK289.out 0; have hfz17_1 := blk_frozen BK289.out 1) | ((with_reducible refine gate_dst (N := 10) rfl ?_); refine Kd.R_lit k35 _ 35 ?hg (N := 10) ?hd (xs := ([(⟨a1_0, a1_1⟩ : S35)] : List (S35))) (inner := [.int .i64 a1_0, .int .i64 a1_1]) (ok := fun _ => True) (okp := fun _ => True) ?hr ?hp (fun _ hk => hk) trivial (Below.refl _ _) (Nat.le_refl _) (by simp) ?_; (case hd => rfl); (case hg => rfl); (case hr => first | (go_simp; done) | (go_simp; rfl)); (case hp => exact (Reps.c2 (show Kd.M k35 _ _ _ (⟨a1_0, a1_1⟩ : S35) [.int .i64 a1_0, .int .i64 a1_1] from (k35_mkM _ _ _ (⟨a1_0, a1_1⟩ : S35) )) (Reps.none _ _))); intro v291 w18 ho19 hb hg_ hnew_; clear hg_ hnew_; (first | rw [← Ny290.out] at ho19 | (simp only [Int.reduceToNat] at ho19; rw [← Ny290.out] at ho19)); have HO292 := A_ (Kd.R_lower (Kd.R_newB ho19 (g := gb289) (o := .cells #[.int .i64 a1_0, .int .i64 a1_1] 35 (0, 0)) bk_) (below_size bw_)); replace HB := A_ (below_step bw_ hb); replace BK289 := A_ (bb_ BK289.out hb); clear hb ho19; obtain ⟨Ao20, co20, eo20⟩ := Kd.R_slice HO292.out; subst eo20) | ((with_reducible refine gate_callee (f := 52) rfl ?_); refine gl_ (some 11) Tryz.func52 #[.int .i64 a0, .slice Ao20 y290.length co20] ?_; (with_reducible refine (impl_onTrack.calls a0 _ _ y290 true _ ?side1 ?side2 A4.out).mono ?_); (case side1 => repeat (first | exact (Kd.R_reads' HO292.out).2.2 | (with_reducible refine Kd.C_alloc ?_ _) | (with_reducible refine Kd.C_drewN ?_ _) | (with_reducible refine Kd.C_drew ?_))); (case side2 => exact (Kd.R_reads' HO292.out).2.1); rintro e w21 ⟨rfl, hb⟩; refine ⟨_, rfl, ?_⟩; replace HB := A_ (below_step bw_ hb); replace BK289 := A_ (bb_ BK289.out hb); replace HO292 := A_ (Kd.R_below (by (with_reducible repeat (first | apply Kd.R_alloc | apply Kd.R_drewN | apply Kd.R_drew)); exact HO292.out) hb); (try clear hb)) | (go_at_call 43; (with_reducible refine (impl_isRunTime.calls a2 false _ A6.out).mono ?_); rintro e w' ⟨rfl, ⟨nd, rfl⟩⟩))
   go_ret2
   exact ⟨rt_, bw_⟩
 ·
  replace c5 := Bool.eq_false_iff.mpr c5
  subst c5
  rw [if_neg (show ¬ (false = true) by decide)] at H
  simp only [Option.some.injEq, Prod.mk.injEq] at H
  obtain ⟨rfl, rfl⟩ := H
  go_enter Tryz.func12, Tryz.ntmps12
  go_wp2_with (first | ((with_reducible refine gate_dst (N := 4) rfl ?_); refine be_ 4 #[.int .i64 a1_0, .int .i64 a1_1] 35 ?_; intro gb289 hg w22 hbox hb; have BK289 := A_ hbox; have GW289 := A_ (bz_ (w := w) hg); have GE289 := A_ (bz_ (w := w) hg); replace HB := A_ (below_step bw_ hb); clear hb hbox hg; have hcz23_0 := hz_ BK289.out 0 (.int .i64 a1_0); have hcz23_1 := hz_ BK289.out 1 (.int .i64 a1_1); have hfz23_0 := blk_frozen BK289.out 0; have hfz23_1 := blk_frozen BK289.out 1) | ((with_reducible refine gate_dst (N := 10) rfl ?_); refine Kd.R_lit k35 _ 35 ?hg (N := 10) ?hd (xs := ([(⟨a1_0, a1_1⟩ : S35)] : List (S35))) (inner := [.int .i64 a1_0, .int .i64 a1_1]) (ok := fun _ => True) (okp := fun _ => True) ?hr ?hp (fun _ hk => hk) trivial (Below.refl _ _) (Nat.le_refl _) (by simp) ?_; (case hd => rfl); (case hg => rfl); (case hr => first | (go_simp; done) | (go_simp; rfl)); (case hp => exact (Reps.c2 (show Kd.M k35 _ _ _ (⟨a1_0, a1_1⟩ : S35) [.int .i64 a1_0, .int .i64 a1_1] from (k35_mkM _ _ _ (⟨a1_0, a1_1⟩ : S35) )) (Reps.none _ _))); intro v291 w24 ho25 hb hg_ hnew_; clear hg_ hnew_; (first | rw [← Ny290.out] at ho25 | (simp only [Int.reduceToNat] at ho25; rw [← Ny290.out] at ho25)); have HO292 := A_ (Kd.R_lower (Kd.R_newB ho25 (g := gb289) (o := .cells #[.int .i64 a1_0, .int .i64 a1_1] 35 (0, 0)) bk_) (below_size bw_)); replace HB := A_ (below_step bw_ hb); replace BK289 := A_ (bb_ BK289.out hb); clear hb ho25; obtain ⟨Ao26, co26, eo26⟩ := Kd.R_slice HO292.out; subst eo26) | ((with_reducible refine gate_callee (f := 52) rfl ?_); refine gl_ (some 11) Tryz.func52 #[.int .i64 a0, .slice Ao26 y290.length co26] ?_; (with_reducible refine (impl_onTrack.calls a0 _ _ y290 false _ ?side1 ?side2 A4.out).mono ?_); (case side1 => repeat (first | exact (Kd.R_reads' HO292.out).2.2 | (with_reducible refine Kd.C_alloc ?_ _) | (with_reducible refine Kd.C_drewN ?_ _) | (with_reducible refine Kd.C_drew ?_))); (case side2 => exact (Kd.R_reads' HO292.out).2.1); rintro e w27 ⟨rfl, hb⟩; refine ⟨_, rfl, ?_⟩; replace HB := A_ (below_step bw_ hb); replace BK289 := A_ (bb_ BK289.out hb); replace HO292 := A_ (Kd.R_below (by (with_reducible repeat (first | apply Kd.R_alloc | apply Kd.R_drewN | apply Kd.R_drew)); exact HO292.out) hb); (try clear hb)))
  go_ret2
  exact ⟨rt_, bw_⟩

/-! ### spec_LapsAt: function 13 -/
def spec_LapsAt.f (a0 : Int) (a1_0 : Int) (a1_1 : Int) (a2 : Int) : Option (Int × Bool) := (spec_trRunner.f a0 a1_0 a1_1).bind fun t296 => (if t296 = true then ((spec_trTime.f a2).bind fun t297 => (if t297 = true then (if a0 = 0 then (none) else (some (wrap64 (Int.tdiv (wrap64 (a1_1 * a2)) a0), true))) else (some (0, false)))) else (some (0, false)))
set_option maxHeartbeats 8000000 in
set_option maxRecDepth 100000 in
theorem spec_LapsAt.calls (a0 : Int) (a1_0 : Int) (a1_1 : Int) (a2 : Int) (r1 : Int) (r2 : Bool) (w : World) (h : spec_LapsAt.f a0 a1_0 a1_1 a2 = some (r1, r2)) :
  Calls Tryz.prog 13 #[.int .i64 a0, .agg #[.int .i64 a1_0, .int .i64 a1_1], .int .i64 a2] w fun e w' => e = .returned (.tuple #[.int .i64 r1, .bool r2]) ∧ Below w.heap.size w w' := by
 have hu35 := Tryz.underlying35
 have HB := A_ (Below.refl w.heap.size w)
 have H := h
 unfold spec_LapsAt.f at H
 clear h
 replace H := ob_ H
 obtain ⟨t296, A4, H⟩ := H
 (try dsimp only at H)
 by_cases c5 : t296 = true
 ·
  subst c5
  rw [if_pos rfl] at H
  replace H := ob_ H
  obtain ⟨t297, A6, H⟩ := H
  (try dsimp only at H)
  by_cases c7 : t297 = true
  ·
   subst c7
   rw [if_pos rfl] at H
   by_cases c8 : a0 = 0
   ·
    rw [if_pos c8] at H
    exact absurd H (by simp)
   ·
    rw [if_neg c8] at H
    have c8b0 : (a0 == 0) = false := beq_eq_false_iff_ne.mpr c8
    have c8b1 : (a0 != 0) = true := bne_iff_ne.mpr c8
    simp only [Option.some.injEq, Prod.mk.injEq] at H
    obtain ⟨rfl, rfl⟩ := H
    go_enter Tryz.func13, Tryz.ntmps13
    go_wp2_with (first | ((with_reducible refine gate_dst (N := 4) rfl ?_); refine be_ 4 #[.int .i64 a1_0, .int .i64 a1_1] 35 ?_; intro gb295 hg w9 hbox hb; have BK295 := A_ hbox; have GW295 := A_ (bz_ (w := w) hg); have GE295 := A_ (bz_ (w := w) hg); replace HB := A_ (below_step bw_ hb); clear hb hbox hg; have hcz10_0 := hz_ BK295.out 0 (.int .i64 a1_0); have hcz10_1 := hz_ BK295.out 1 (.int .i64 a1_1); have hfz10_0 := blk_frozen BK295.out 0; have hfz10_1 := blk_frozen BK295.out 1) | ((with_reducible refine gate_callee (f := 54) rfl ?_); refine gl_ (some 10) Tryz.func54 #[.int .i64 a0, .agg #[.int .i64 a1_0, .int .i64 a1_1]] ?_; (with_reducible refine (spec_trRunner.calls a0 a1_0 a1_1 true _ A4.out).mono ?_); rintro e w11 ⟨rfl, hb⟩; refine ⟨_, rfl, ?_⟩; replace HB := A_ (below_step bw_ hb); replace BK295 := A_ (bb_ BK295.out hb); (try clear hb)) | (go_at_call 49; (with_reducible refine (spec_trTime.calls a2 true _ A6.out).mono ?_); rintro e w' ⟨rfl, ⟨nd, rfl⟩⟩; have hcz12_0 := hz_ BK295.out 0 (.int .i64 a1_0); have hcz12_1 := hz_ BK295.out 1 (.int .i64 a1_1); have hfz12_0 := blk_frozen BK295.out 0; have hfz12_1 := blk_frozen BK295.out 1))
    go_ret2
    exact ⟨rt_, bw_⟩
  ·
   replace c7 := Bool.eq_false_iff.mpr c7
   subst c7
   rw [if_neg (show ¬ (false = true) by decide)] at H
   simp only [Option.some.injEq, Prod.mk.injEq] at H
   obtain ⟨rfl, rfl⟩ := H
   go_enter Tryz.func13, Tryz.ntmps13
   go_wp2_with (first | ((with_reducible refine gate_dst (N := 4) rfl ?_); refine be_ 4 #[.int .i64 a1_0, .int .i64 a1_1] 35 ?_; intro gb295 hg w13 hbox hb; have BK295 := A_ hbox; have GW295 := A_ (bz_ (w := w) hg); have GE295 := A_ (bz_ (w := w) hg); replace HB := A_ (below_step bw_ hb); clear hb hbox hg; have hcz14_0 := hz_ BK295.out 0 (.int .i64 a1_0); have hcz14_1 := hz_ BK295.out 1 (.int .i64 a1_1); have hfz14_0 := blk_frozen BK295.out 0; have hfz14_1 := blk_frozen BK295.out 1) | ((with_reducible refine gate_callee (f := 54) rfl ?_); refine gl_ (some 10) Tryz.func54 #[.int .i64 a0, .agg #[.int .i64 a1_0, .int .i64 a1_1]] ?_; (with_reducible refine (spec_trRunner.calls a0 a1_0 a1_1 true _ A4.out).mono ?_); rintro e w15 ⟨rfl, hb⟩; refine ⟨_, rfl, ?_⟩; replace HB := A_ (below_step bw_ hb); replace BK295 := A_ (bb_ BK295.out hb); (try clear hb)) | (go_at_call 49; (with_reducible refine (spec_trTime.calls a2 false _ A6.out).mono ?_); rintro e w' ⟨rfl, ⟨nd, rfl⟩⟩))
   go_ret2
   exact ⟨rt_, bw_⟩
 ·
  replace c5 := Bool.eq_false_iff.mpr c5
  subst c5
  rw [if_neg (show ¬ (false = true) by decide)] at H
  simp only [Option.some.injEq, Prod.mk.injEq] at H
  obtain ⟨rfl, rfl⟩ := H
  go_enter Tryz.func13, Tryz.ntmps13
  go_wp2_with (first | ((with_reducible refine gate_dst (N := 4) rfl ?_); refine be_ 4 #[.int .i64 a1_0, .int .i64 a1_1] 35 ?_; intro gb295 hg w16 hbox hb; have BK295 := A_ hbox; have GW295 := A_ (bz_ (w := w) hg); have GE295 := A_ (bz_ (w := w) hg); replace HB := A_ (below_step bw_ hb); clear hb hbox hg; have hcz17_0 := hz_ BK295.out 0 (.int .i64 a1_0); have hcz17_1 := hz_ BK295.out 1 (.int .i64 a1_1); have hfz17_0 := blk_frozen BK295.out 0; have hfz17_1 := blk_frozen BK295.out 1) | ((with_reducible refine gate_callee (f := 54) rfl ?_); refine gl_ (some 10) Tryz.func54 #[.int .i64 a0, .agg #[.int .i64 a1_0, .int .i64 a1_1]] ?_; (with_reducible refine (spec_trRunner.calls a0 a1_0 a1_1 false _ A4.out).mono ?_); rintro e w18 ⟨rfl, hb⟩; refine ⟨_, rfl, ?_⟩; replace HB := A_ (below_step bw_ hb); replace BK295 := A_ (bb_ BK295.out hb); (try clear hb)))
  go_ret2
  exact ⟨rt_, bw_⟩

/-! ### impl_PlaceOnTrack: function 14 -/
def impl_PlaceOnTrack.f (a0 : Int) (a1_0 : Int) (a1_1 : Int) (a2 : Int) : Option (Int × Bool) := (impl_onTrack.f a0 (([(⟨a1_0, a1_1⟩ : S35)] : List (S35)))).bind fun t302 => (if t302 = true then ((impl_isRunTime.f a2).bind fun t303 => (if t303 = true then ((impl_farAt.f a1_0 a1_1 a2).bind fun t304 => (if a0 = 0 then (none) else (some (Int.tmod t304 a0, true)))) else (some (0, false)))) else (some (0, false)))
set_option maxHeartbeats 8000000 in
set_option maxRecDepth 100000 in
theorem impl_PlaceOnTrack.calls (a0 : Int) (a1_0 : Int) (a1_1 : Int) (a2 : Int) (r1 : Int) (r2 : Bool) (w : World) (h : impl_PlaceOnTrack.f a0 a1_0 a1_1 a2 = some (r1, r2)) :
  Calls Tryz.prog 14 #[.int .i64 a0, .agg #[.int .i64 a1_0, .int .i64 a1_1], .int .i64 a2] w fun e w' => e = .returned (.tuple #[.int .i64 r1, .bool r2]) ∧ Below w.heap.size w w' := by
 have hu35 := Tryz.underlying35
 have HB := A_ (Below.refl w.heap.size w)
 have H := h
 unfold impl_PlaceOnTrack.f at H
 clear h
 obtain ⟨y299, hy299⟩ : ∃ y_ : List (S35), y_ = (([(⟨a1_0, a1_1⟩ : S35)] : List (S35))) := ⟨_, rfl⟩
 replace H : ((impl_onTrack.f a0 y299).bind fun t302 => (if t302 = true then ((impl_isRunTime.f a2).bind fun t303 => (if t303 = true then ((impl_farAt.f a1_0 a1_1 a2).bind fun t304 => (if a0 = 0 then (none) else (some (Int.tmod t304 a0, true)))) else (some (0, false)))) else (some (0, false)))) = some (r1, r2) := by first | (rw [hy299]; with_reducible exact H) | (have H2_ := (Option.bind_some _ _).symm.trans H; rw [hy299]; with_reducible exact H2_) | (have H2_ := (Option.bind_some _ _).symm.trans H; with_reducible exact H2_) | with_reducible exact H | (rw [hy299]; exact H) | exact H
 have Ny299 := A_ hy299
 clear hy299
 replace H := ob_ H
 obtain ⟨t302, A4, H⟩ := H
 (try dsimp only at H)
 by_cases c5 : t302 = true
 ·
  subst c5
  rw [if_pos rfl] at H
  replace H := ob_ H
  obtain ⟨t303, A6, H⟩ := H
  (try dsimp only at H)
  by_cases c7 : t303 = true
  ·
   subst c7
   rw [if_pos rfl] at H
   replace H := ob_ H
   obtain ⟨t304, A8, H⟩ := H
   (try dsimp only at H)
   by_cases c9 : a0 = 0
   ·
    rw [if_pos c9] at H
    exact absurd H (by simp)
   ·
    rw [if_neg c9] at H
    have c9b0 : (a0 == 0) = false := beq_eq_false_iff_ne.mpr c9
    have c9b1 : (a0 != 0) = true := bne_iff_ne.mpr c9
    simp only [Option.some.injEq, Prod.mk.injEq] at H
    obtain ⟨rfl, rfl⟩ := H
    go_enter Tryz.func14, Tryz.ntmps14
    go_wp2_with (first | ((with_reducible refine gate_dst (N := 4) rfl ?_); refine be_ 4 #[.int .i64 a1_0, .int .i64 a1_1] 35 ?_; intro gb298 hg w10 hbox hb; have BK298 := A_ hbox; have GW298 := A_ (bz_ (w := w) hg); have GE298 := A_ (bz_ (w := w) hg); replace HB := A_ (below_step bw_ hb); clear hb hbox hg; have hcz11_0 := hz_ BK298.out 0 (.int .i64 a1_0); have hcz11_1 := hz_ BK298.out 1 (.int .i64 a1_1); have hfz11_0 := blk_frozen BK298.out 0; have hfz11_1 := blk_frozen BK298.out 1) | ((with_reducible refine gate_dst (N := 10) rfl ?_); refine Kd.R_lit k35 _ 35 ?hg (N := 10) ?hd (xs := ([(⟨a1_0, a1_1⟩ : S35)] : List (S35))) (inner := [.int .i64 a1_0, .int .i64 a1_1]) (ok := fun _ => True) (okp := fun _ => True) ?hr ?hp (fun _ hk => hk) trivial (Below.refl _ _) (Nat.le_refl _) (by simp) ?_; (case hd => rfl); (case hg => rfl); (case hr => first | (go_simp; done) | (go_simp; rfl)); (case hp => exact (Reps.c2 (show Kd.M k35 _ _ _ (⟨a1_0, a1_1⟩ : S35) [.int .i64 a1_0, .int .i64 a1_1] from (k35_mkM _ _ _ (⟨a1_0, a1_1⟩ : S35) )) (Reps.none _ _))); intro v300 w12 ho13 hb hg_ hnew_; clear hg_ hnew_; (first | rw [← Ny299.out] at ho13 | (simp only [Int.reduceToNat] at ho13; rw [← Ny299.out] at ho13)); have HO301 := A_ (Kd.R_lower (Kd.R_newB ho13 (g := gb298) (o := .cells #[.int .i64 a1_0, .int .i64 a1_1] 35 (0, 0)) bk_) (below_size bw_)); replace HB := A_ (below_step bw_ hb); replace BK298 := A_ (bb_ BK298.out hb); clear hb ho13; obtain ⟨Ao14, co14, eo14⟩ := Kd.R_slice HO301.out; subst eo14) | ((with_reducible refine gate_callee (f := 52) rfl ?_); refine gl_ (some 11) Tryz.func52 #[.int .i64 a0, .slice Ao14 y299.length co14] ?_; (with_reducible refine (impl_onTrack.calls a0 _ _ y299 true _ ?side1 ?side2 A4.out).mono ?_); (case side1 => repeat (first | exact (Kd.R_reads' HO301.out).2.2 | (with_reducible refine Kd.C_alloc ?_ _) | (with_reducible refine Kd.C_drewN ?_ _) | (with_reducible refine Kd.C_drew ?_))); (case side2 => exact (Kd.R_reads' HO301.out).2.1); rintro e w15 ⟨rfl, hb⟩; refine ⟨_, rfl, ?_⟩; replace HB := A_ (below_step bw_ hb); replace BK298 := A_ (bb_ BK298.out hb); replace HO301 := A_ (Kd.R_below (by (with_reducible repeat (first | apply Kd.R_alloc | apply Kd.R_drewN | apply Kd.R_drew)); exact HO301.out) hb); (try clear hb)) | (go_at_call 43; (with_reducible refine (impl_isRunTime.calls a2 true _ A6.out).mono ?_); rintro e w' ⟨rfl, ⟨nd, rfl⟩⟩; have hcz16_0 := hz_ BK298.out 0 (.int .i64 a1_0); have hcz16_1 := hz_ BK298.out 1 (.int .i64 a1_1); have hfz16_0 := blk_frozen BK298.out 0; have hfz16_1 := blk_frozen BK298.out 1) | ((with_reducible refine gate_callee (f := 47) rfl ?_); refine gl_ (some 20) Tryz.func47 #[.agg #[.int .i64 a1_0, .int .i64 a1_1], .int .i64 a2] ?_; (with_reducible refine (impl_farAt.calls a1_0 a1_1 a2 t304 _ A8.out).mono ?_); rintro e w17 ⟨rfl, hb⟩; refine ⟨_, rfl, ?_⟩; replace HB := A_ (below_step bw_ hb); replace BK298 := A_ (bb_ BK298.out hb); replace HO301 := A_ (Kd.R_below (by (with_reducible repeat (first | apply Kd.R_alloc | apply Kd.R_drewN | apply Kd.R_drew)); exact HO301.out) hb); (try clear hb)))
    go_ret2
    exact ⟨rt_, bw_⟩
  ·
   replace c7 := Bool.eq_false_iff.mpr c7
   subst c7
   rw [if_neg (show ¬ (false = true) by decide)] at H
   simp only [Option.some.injEq, Prod.mk.injEq] at H
   obtain ⟨rfl, rfl⟩ := H
   go_enter Tryz.func14, Tryz.ntmps14
   go_wp2_with (first | ((with_reducible refine gate_dst (N := 4) rfl ?_); refine be_ 4 #[.int .i64 a1_0, .int .i64 a1_1] 35 ?_; intro gb298 hg w18 hbox hb; have BK298 := A_ hbox; have GW298 := A_ (bz_ (w := w) hg); have GE298 := A_ (bz_ (w := w) hg); replace HB := A_ (below_step bw_ hb); clear hb hbox hg; have hcz19_0 := hz_ BK298.out 0 (.int .i64 a1_0); have hcz19_1 := hz_ BK298.out 1 (.int .i64 a1_1); have hfz19_0 := blk_frozen BK298.out 0; have hfz19_1 := blk_frozen BK298.out 1) | ((with_reducible refine gate_dst (N := 10) rfl ?_); refine Kd.R_lit k35 _ 35 ?hg (N := 10) ?hd (xs := ([(⟨a1_0, a1_1⟩ : S35)] : List (S35))) (inner := [.int .i64 a1_0, .int .i64 a1_1]) (ok := fun _ => True) (okp := fun _ => True) ?hr ?hp (fun _ hk => hk) trivial (Below.refl _ _) (Nat.le_refl _) (by simp) ?_; (case hd => rfl); (case hg => rfl); (case hr => first | (go_simp; done) | (go_simp; rfl)); (case hp => exact (Reps.c2 (show Kd.M k35 _ _ _ (⟨a1_0, a1_1⟩ : S35) [.int .i64 a1_0, .int .i64 a1_1] from (k35_mkM _ _ _ (⟨a1_0, a1_1⟩ : S35) )) (Reps.none _ _))); intro v300 w20 ho21 hb hg_ hnew_; clear hg_ hnew_; (first | rw [← Ny299.out] at ho21 | (simp only [Int.reduceToNat] at ho21; rw [← Ny299.out] at ho21)); have HO301 := A_ (Kd.R_lower (Kd.R_newB ho21 (g := gb298) (o := .cells #[.int .i64 a1_0, .int .i64 a1_1] 35 (0, 0)) bk_) (below_size bw_)); replace HB := A_ (below_step bw_ hb); replace BK298 := A_ (bb_ BK298.out hb); clear hb ho21; obtain ⟨Ao22, co22, eo22⟩ := Kd.R_slice HO301.out; subst eo22) | ((with_reducible refine gate_callee (f := 52) rfl ?_); refine gl_ (some 11) Tryz.func52 #[.int .i64 a0, .slice Ao22 y299.length co22] ?_; (with_reducible refine (impl_onTrack.calls a0 _ _ y299 true _ ?side1 ?side2 A4.out).mono ?_); (case side1 => repeat (first | exact (Kd.R_reads' HO301.out).2.2 | (with_reducible refine Kd.C_alloc ?_ _) | (with_reducible refine Kd.C_drewN ?_ _) | (with_reducible refine Kd.C_drew ?_))); (case side2 => exact (Kd.R_reads' HO301.out).2.1); rintro e w23 ⟨rfl, hb⟩; refine ⟨_, rfl, ?_⟩; replace HB := A_ (below_step bw_ hb); replace BK298 := A_ (bb_ BK298.out hb); replace HO301 := A_ (Kd.R_below (by (with_reducible repeat (first | apply Kd.R_alloc | apply Kd.R_drewN | apply Kd.R_drew)); exact HO301.out) hb); (try clear hb)) | (go_at_call 43; (with_reducible refine (impl_isRunTime.calls a2 false _ A6.out).mono ?_); rintro e w' ⟨rfl, ⟨nd, rfl⟩⟩))
   go_ret2
   exact ⟨rt_, bw_⟩
 ·
  replace c5 := Bool.eq_false_iff.mpr c5
  subst c5
  rw [if_neg (show ¬ (false = true) by decide)] at H
  simp only [Option.some.injEq, Prod.mk.injEq] at H
  obtain ⟨rfl, rfl⟩ := H
  go_enter Tryz.func14, Tryz.ntmps14
  go_wp2_with (first | ((with_reducible refine gate_dst (N := 4) rfl ?_); refine be_ 4 #[.int .i64 a1_0, .int .i64 a1_1] 35 ?_; intro gb298 hg w24 hbox hb; have BK298 := A_ hbox; have GW298 := A_ (bz_ (w := w) hg); have GE298 := A_ (bz_ (w := w) hg); replace HB := A_ (below_step bw_ hb); clear hb hbox hg; have hcz25_0 := hz_ BK298.out 0 (.int .i64 a1_0); have hcz25_1 := hz_ BK298.out 1 (.int .i64 a1_1); have hfz25_0 := blk_frozen BK298.out 0; have hfz25_1 := blk_frozen BK298.out 1) | ((with_reducible refine gate_dst (N := 10) rfl ?_); refine Kd.R_lit k35 _ 35 ?hg (N := 10) ?hd (xs := ([(⟨a1_0, a1_1⟩ : S35)] : List (S35))) (inner := [.int .i64 a1_0, .int .i64 a1_1]) (ok := fun _ => True) (okp := fun _ => True) ?hr ?hp (fun _ hk => hk) trivial (Below.refl _ _) (Nat.le_refl _) (by simp) ?_; (case hd => rfl); (case hg => rfl); (case hr => first | (go_simp; done) | (go_simp; rfl)); (case hp => exact (Reps.c2 (show Kd.M k35 _ _ _ (⟨a1_0, a1_1⟩ : S35) [.int .i64 a1_0, .int .i64 a1_1] from (k35_mkM _ _ _ (⟨a1_0, a1_1⟩ : S35) )) (Reps.none _ _))); intro v300 w26 ho27 hb hg_ hnew_; clear hg_ hnew_; (first | rw [← Ny299.out] at ho27 | (simp only [Int.reduceToNat] at ho27; rw [← Ny299.out] at ho27)); have HO301 := A_ (Kd.R_lower (Kd.R_newB ho27 (g := gb298) (o := .cells #[.int .i64 a1_0, .int .i64 a1_1] 35 (0, 0)) bk_) (below_size bw_)); replace HB := A_ (below_step bw_ hb); replace BK298 := A_ (bb_ BK298.out hb); clear hb ho27; obtain ⟨Ao28, co28, eo28⟩ := Kd.R_slice HO301.out; subst eo28) | ((with_reducible refine gate_callee (f := 52) rfl ?_); refine gl_ (some 11) Tryz.func52 #[.int .i64 a0, .slice Ao28 y299.length co28] ?_; (with_reducible refine (impl_onTrack.calls a0 _ _ y299 false _ ?side1 ?side2 A4.out).mono ?_); (case side1 => repeat (first | exact (Kd.R_reads' HO301.out).2.2 | (with_reducible refine Kd.C_alloc ?_ _) | (with_reducible refine Kd.C_drewN ?_ _) | (with_reducible refine Kd.C_drew ?_))); (case side2 => exact (Kd.R_reads' HO301.out).2.1); rintro e w29 ⟨rfl, hb⟩; refine ⟨_, rfl, ?_⟩; replace HB := A_ (below_step bw_ hb); replace BK298 := A_ (bb_ BK298.out hb); replace HO301 := A_ (Kd.R_below (by (with_reducible repeat (first | apply Kd.R_alloc | apply Kd.R_drewN | apply Kd.R_drew)); exact HO301.out) hb); (try clear hb)))
  go_ret2
  exact ⟨rt_, bw_⟩

end Go.Proofs.YtfkieckkmcibbaaGreatDoor.PFnRunnersRun
