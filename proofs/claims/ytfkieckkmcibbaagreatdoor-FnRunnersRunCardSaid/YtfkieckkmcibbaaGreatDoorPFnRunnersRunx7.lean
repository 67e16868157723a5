-- Laid by a program of this session's (wip/gen/printp.sh): the functions that the law reaches, each with its walk.
import Derived.Test.YtfkieckkmcibbaaGreatDoorPFnRunnersRunx0
import Derived.Test.YtfkieckkmcibbaaGreatDoorPFnRunnersRunx2
import Derived.Test.YtfkieckkmcibbaaGreatDoorPFnRunnersRunx3
import Derived.Test.YtfkieckkmcibbaaGreatDoorPFnRunnersRunx4
import Derived.Test.YtfkieckkmcibbaaGreatDoorPFnRunnersRunx6
namespace Go.Proofs.YtfkieckkmcibbaaGreatDoor.PFnRunnersRun
open Go.RowKit Go.Proofs.YtfkieckkmcibbaaGreatDoorW.PrintWords Go.Proofs.YtfkieckkmcibbaaGreatDoorW.PrintLast Go.Proofs.YtfkieckkmcibbaaGreatDoorW.PrintMore
attribute [local go_sem] max2_int min2_int max_two min_two max_three min_three max_four min_four   -- for this text's walks alone
set_option linter.unusedVariables false
set_option linter.unusedSimpArgs false

/-! ### spec_trPlace: function 55 -/
def spec_trPlace.f (a0 : Int) (a1_0 : Int) (a1_1 : Int) (a2 : Int) : Option (Int) := (spec_trFar.f a1_0 a1_1 a2).bind fun t306 => (if a0 = 0 then (none) else (some (Int.tmod t306 a0)))
set_option maxHeartbeats 8000000 in
set_option maxRecDepth 100000 in
theorem spec_trPlace.calls (a0 : Int) (a1_0 : Int) (a1_1 : Int) (a2 : Int) (r : Int) (w : World) (h : spec_trPlace.f a0 a1_0 a1_1 a2 = some r) :
  Calls Tryz.prog 55 #[.int .i64 a0, .agg #[.int .i64 a1_0, .int .i64 a1_1], .int .i64 a2] w fun e w' => e = .returned (.int .i64 r) ∧ Below w.heap.size w w' := by
 have hu35 := Tryz.underlying35
 have HB := A_ (Below.refl w.heap.size w)
 have H := h
 unfold spec_trPlace.f at H
 clear h
 replace H := ob_ H
 obtain ⟨t306, A4, H⟩ := H
 (try dsimp only at H)
 by_cases c5 : a0 = 0
 ·
  rw [if_pos c5] at H
  exact absurd H (by simp)
 ·
  rw [if_neg c5] at H
  have c5b0 : (a0 == 0) = false := beq_eq_false_iff_ne.mpr c5
  have c5b1 : (a0 != 0) = true := bne_iff_ne.mpr c5
  obtain rfl := Option.some.inj H
  go_enter Tryz.func55, Tryz.ntmps55
  go_wp2_with (first | ((with_reducible refine gate_dst (N := 4) rfl ?_); refine be_ 4 #[.int .i64 a1_0, .int .i64 a1_1] 35 ?_; intro gb305 hg w6 hbox hb; have BK305 := A_ hbox; have GW305 := A_ (bz_ (w := w) hg); have GE305 := A_ (bz_ (w := w) hg); replace HB := A_ (below_step bw_ hb); clear hb hbox hg; have hcz7_0 := hz_ BK305.out 0 (.int .i64 a1_0); have hcz7_1 := hz_ BK305.out 1 (.int .i64 a1_1); have hfz7_0 := blk_frozen BK305.out 0; have hfz7_1 := blk_frozen BK305.out 1) | ((with_reducible refine gate_callee (f := 50) rfl ?_); refine gl_ (some 9) Tryz.func50 #[.agg #[.int .i64 a1_0, .int .i64 a1_1], .int .i64 a2] ?_; (with_reducible refine (spec_trFar.calls a1_0 a1_1 a2 t306 _ A4.out).mono ?_); rintro e w8 ⟨rfl, hb⟩; refine ⟨_, rfl, ?_⟩; replace HB := A_ (below_step bw_ hb); replace BK305 := A_ (bb_ BK305.out hb); (try clear hb)))
  go_ret
  exact ⟨rt_, bw_⟩

/-! ### spec_PlaceOnTrack: function 15 -/
def spec_PlaceOnTrack.f (a0 : Int) (a1_0 : Int) (a1_1 : Int) (a2 : Int) : Option (Int × Bool) := (spec_trRunner.f a0 a1_0 a1_1).bind fun t308 => (if t308 = true then ((spec_trTime.f a2).bind fun t309 => (if t309 = true then ((spec_trPlace.f a0 a1_0 a1_1 a2).bind fun t310 => (some (t310, true))) else (some (0, false)))) else (some (0, false)))
set_option maxHeartbeats 8000000 in
set_option maxRecDepth 100000 in
theorem spec_PlaceOnTrack.calls (a0 : Int) (a1_0 : Int) (a1_1 : Int) (a2 : Int) (r1 : Int) (r2 : Bool) (w : World) (h : spec_PlaceOnTrack.f a0 a1_0 a1_1 a2 = some (r1, r2)) :
  Calls Tryz.prog 15 #[.int .i64 a0, .agg #[.int .i64 a1_0, .int .i64 a1_1], .int .i64 a2] w fun e w' => e = .returned (.tuple #[.int .i64 r1, .bool r2]) ∧ Below w.heap.size w w' := by
 have hu35 := Tryz.underlying35
 have HB := A_ (Below.refl w.heap.size w)
 have H := h
 unfold spec_PlaceOnTrack.f at H
 clear h
 replace H := ob_ H
 obtain ⟨t308, A4, H⟩ := H
 (try dsimp only at H)
 by_cases c5 : t308 = true
 ·
  subst c5
  rw [if_pos rfl] at H
  replace H := ob_ H
  obtain ⟨t309, A6, H⟩ := H
  (try dsimp only at H)
  by_cases c7 : t309 = true
  ·
   subst c7
   rw [if_pos rfl] at H
   replace H := Option.bind_eq_some_iff.mp H
   obtain ⟨t310, A80, H⟩ := H
   replace H : (some (t310, true)) = some (r1, r2) := H
   have A8 := A_ A80
   clear A80
   simp only [Option.some.injEq, Prod.mk.injEq] at H
   obtain ⟨rfl, rfl⟩ := H
   go_enter Tryz.func15, Tryz.ntmps15
   go_wp2_with (first | ((with_reducible refine gate_dst (N := 4) rfl ?_); refine be_ 4 #[.int .i64 a1_0, .int .i64 a1_1] 35 ?_; intro gb307 hg w9 hbox hb; have BK307 := A_ hbox; have GW307 := A_ (bz_ (w := w) hg); have GE307 := A_ (bz_ (w := w) hg); replace HB := A_ (below_step bw_ hb); clear hb hbox hg; have hcz10_0 := hz_ BK307.out 0 (.int .i64 a1_0); have hcz10_1 := hz_ BK307.out 1 (.int .i64 a1_1); have hfz10_0 := blk_frozen BK307.out 0; have hfz10_1 := blk_frozen BK307.out 1) | ((with_reducible refine gate_callee (f := 54) rfl ?_); refine gl_ (some 10) Tryz.func54 #[.int .i64 a0, .agg #[.int .i64 a1_0, .int .i64 a1_1]] ?_; (with_reducible refine (spec_trRunner.calls a0 a1_0 a1_1 true _ A4.out).mono ?_); rintro e w11 ⟨rfl, hb⟩; refine ⟨_, rfl, ?_⟩; replace HB := A_ (below_step bw_ hb); replace BK307 := A_ (bb_ BK307.out hb); (try clear hb)) | (go_at_call 49; (with_reducible refine (spec_trTime.calls a2 true _ A6.out).mono ?_); rintro e w' ⟨rfl, ⟨nd, rfl⟩⟩; have hcz12_0 := hz_ BK307.out 0 (.int .i64 a1_0); have hcz12_1 := hz_ BK307.out 1 (.int .i64 a1_1); have hfz12_0 := blk_frozen BK307.out 0; have hfz12_1 := blk_frozen BK307.out 1) | ((with_reducible refine gate_callee (f := 55) rfl ?_); refine gl_ (some 20) Tryz.func55 #[.int .i64 a0, .agg #[.int .i64 a1_0, .int .i64 a1_1], .int .i64 a2] ?_; (with_reducible refine (spec_trPlace.calls a0 a1_0 a1_1 a2 t310 _ A8.out).mono ?_); rintro e w13 ⟨rfl, hb⟩; refine ⟨_, rfl, ?_⟩; replace HB := A_ (below_step bw_ hb); replace BK307 := A_ (bb_ BK307.out hb); (try clear hb)))
   go_ret2
   exact ⟨rt_, bw_⟩
  ·
   replace c7 := Bool.eq_false_iff.mpr c7
   subst c7
   rw [if_neg (show ¬ (false = true) by decide)] at H
   simp only [Option.some.injEq, Prod.mk.injEq] at H
   obtain ⟨rfl, rfl⟩ := H
   go_enter Tryz.func15, Tryz.ntmps15
   go_wp2_with (first | ((with_reducible refine gate_dst (N := 4) rfl ?_); refine be_ 4 #[.int .i64 a1_0, .int .i64 a1_1] 35 ?_; intro gb307 hg w14 hbox hb; have BK307 := A_ hbox; have GW307 := A_ (bz_ (w := w) hg); have GE307 := A_ (bz_ (w := w) hg); replace HB := A_ (below_step bw_ hb); clear hb hbox hg; have hcz15_0 := hz_ BK307.out 0 (.int .i64 a1_0); have hcz15_1 := hz_ BK307.out 1 (.int .i64 a1_1); have hfz15_0 := blk_frozen BK307.out 0; have hfz15_1 := blk_frozen BK307.out 1) | ((with_reducible refine gate_callee (f := 54) rfl ?_); refine gl_ (some 10) Tryz.func54 #[.int .i64 a0, .agg #[.int .i64 a1_0, .int .i64 a1_1]] ?_; (with_reducible refine (spec_trRunner.calls a0 a1_0 a1_1 true _ A4.out).mono ?_); rintro e w16 ⟨rfl, hb⟩; refine ⟨_, rfl, ?_⟩; replace HB := A_ (below_step bw_ hb); replace BK307 := A_ (bb_ BK307.out hb); (try clear hb)) | (go_at_call 49; (with_reducible refine (spec_trTime.calls a2 false _ A6.out).mono ?_); rintro e w' ⟨rfl, ⟨nd, rfl⟩⟩))
   go_ret2
   exact ⟨rt_, bw_⟩
 ·
  replace c5 := Bool.eq_false_iff.mpr c5
  subst c5
  rw [if_neg (show ¬ (false = true) by decide)] at H
  simp only [Option.some.injEq, Prod.mk.injEq] at H
  obtain ⟨rfl, rfl⟩ := H
  go_enter Tryz.func15, Tryz.ntmps15
  go_wp2_with (first | ((with_reducible refine gate_dst (N := 4) rfl ?_); refine be_ 4 #[.int .i64 a1_0, .int .i64 a1_1] 35 ?_; intro gb307 hg w17 hbox hb; have BK307 := A_ hbox; have GW307 := A_ (bz_ (w := w) hg); have GE307 := A_ (bz_ (w := w) hg); replace HB := A_ (below_step bw_ hb); clear hb hbox hg; have hcz18_0 := hz_ BK307.out 0 (.int .i64 a1_0); have hcz18_1 := hz_ BK307.out 1 (.int .i64 a1_1); have hfz18_0 := blk_frozen BK307.out 0; have hfz18_1 := blk_frozen BK307.out 1) | ((with_reducible refine gate_callee (f := 54) rfl ?_); refine gl_ (some 10) Tryz.func54 #[.int .i64 a0, .agg #[.int .i64 a1_0, .int .i64 a1_1]] ?_; (with_reducible refine (spec_trRunner.calls a0 a1_0 a1_1 false _ A4.out).mono ?_); rintro e w19 ⟨rfl, hb⟩; refine ⟨_, rfl, ?_⟩; replace HB := A_ (below_step bw_ hb); replace BK307 := A_ (bb_ BK307.out hb); (try clear hb)))
  go_ret2
  exact ⟨rt_, bw_⟩

/-! ### spec_DrawLonelyTime: function 16 -/
def spec_DrawLonelyTime.f (k : Nat) (l0 : List Int) : Option (Int × (List (S35)) × Int) := (spec_l1Cur_runners.f k l0 0 0).bind fun bt312 => ((spec_l1Cur_pick.f l0 bt312.2.2.1 bt312.2.2.2 (wrap64 ((bt312.2.1.length : Int) + 1))).bind fun bt318 => ((spec_l1Cur_pick.f l0 bt318.2.1 bt318.2.2 9).bind fun bt321 => (some (bt312.1, bt312.2.1, wrap64 (bt318.1 - (wrap64 (Int.tdiv bt321.1 8)))))))

set_option maxHeartbeats 8000000 in
set_option maxRecDepth 100000 in
theorem spec_DrawLonelyTime.calls (k : Nat) (A0 : Option Addr) (c0 : Nat) (l0 : List Int) (r1 : Int) (r2 : List (S35)) (r3 : Int) (w : World) (hr0 : Kd.C (Kd.int .u8) w A0 l0.length l0) (hc0 : l0.length ≤ c0) (h : spec_DrawLonelyTime.f k l0 = some (r1, r2, r3)) :
  Calls Tryz.prog 16 #[.slice A0 l0.length c0] w fun e w' => ∃ v1_ : Value, e = .returned (.tuple #[.int .i64 r1, v1_, .int .i64 r3]) ∧ Kd.R k35 35 w' w.heap.size (fun _ => True) v1_ r2 ∧ Below w.heap.size w w' := by
 have hu60 := Tryz.underlying60
 have HR0 := A_ hr0
 have HC0 := A_ hc0
 clear hr0 hc0
 have HB := A_ (Below.refl w.heap.size w)
 have H := h
 unfold spec_DrawLonelyTime.f at H
 clear h
 replace H := ob_ H
 obtain ⟨⟨t312, t313, t316, t317⟩, A2, H⟩ := H
 (try dsimp only at H)
 replace H := ob_ H
 obtain ⟨⟨t318, t319, t320⟩, A3, H⟩ := H
 (try dsimp only at H)
 replace H := ob_ H
 obtain ⟨⟨t321, t322, t323⟩, A4, H⟩ := H
 (try dsimp only at H)
 simp only [Option.some.injEq, Prod.mk.injEq] at H
 obtain ⟨rfl, rfl, rfl⟩ := H
 go_enter Tryz.func16, Tryz.ntmps16
 go_wp2_with (first | ((with_reducible refine gate_dst (N := 10) rfl ?_); refine be_ 10 #[.slice A0 l0.length c0, .int .i64 0, .int .u64 0] 60 ?_; intro gb311 hg w5 hbox hb; have HI311 := A_ ((⟨_, _, hbox, (by rw [hg]; exact (below_size bw_) : w.heap.size ≤ gb311), HR0.out⟩ : IsS60 w _ gb311 l0 0 0)); have GW311 := A_ (bz_ (w := w) hg); have GE311 := A_ (bz_ (w := w) hg); replace HB := A_ (below_step bw_ hb); clear hb hbox hg) | ((with_reducible refine gate_callee (f := 40) rfl ?_); refine gl_ (some 13) Tryz.func40 #[.pointer (some ⟨gb311, 0, none⟩)] ?_; (with_reducible refine (spec_l1Cur_runners.calls k gb311 l0 0 0 t312 t313 t316 t317 w _ ?side1 ?side2 A2.out).mono ?_); (case side1 => repeat (first | (with_reducible first | exact HI311.out | apply IsS60.alloc | apply IsS60.drewN | apply IsS60.drew | apply IsS60.set_1 | apply IsS60.set_2) | exact HI311.out)); (case side2 => repeat (first | (with_reducible first | exact HB.out | apply below_alloc | apply pw_below_drewN | apply below_drew1 | refine below_set ?_ (IsS60.ge HI311.out)) | exact HB.out)); rintro e w6 ⟨v314, rfl, ho0, hi, hb, hk⟩; refine ⟨_, rfl, ?_⟩; have HO315 := A_ (Kd.R_lower ho0 (below_size (by repeat (first | (with_reducible first | exact HB.out | apply below_alloc | apply pw_below_drewN | apply below_drew1 | refine below_set ?_ (IsS60.ge HI311.out)) | exact HB.out)))); replace HB := A_ (hb); replace HI311 := A_ (hi); (try clear hb hk hi); (try clear ho0); obtain ⟨Ao7, co7, eo7⟩ := Kd.R_slice HO315.out; subst eo7) | ((with_reducible refine gate_callee (f := 56) rfl ?_); refine gl_ (some 22) Tryz.func56 #[.pointer (some ⟨gb311, 0, none⟩), .int .i64 (wrap64 ((t313.length : Int) + 1))] ?_; (with_reducible refine (spec_l1Cur_pick.calls gb311 l0 t316 t317 (wrap64 ((t313.length : Int) + 1)) t318 t319 t320 w _ ?side1 ?side2 A3.out).mono ?_); (case side1 => repeat (first | (with_reducible first | exact HI311.out | apply IsS60.alloc | apply IsS60.drewN | apply IsS60.drew | apply IsS60.set_1 | apply IsS60.set_2) | exact HI311.out)); (case side2 => repeat (first | (with_reducible first | exact HB.out | apply below_alloc | apply pw_below_drewN | apply below_drew1 | refine below_set ?_ (IsS60.ge HI311.out)) | exact HB.out)); rintro e w8 ⟨rfl, hi, hb, hk⟩; refine ⟨_, rfl, ?_⟩; have n0_ := A_ (Kd.R_mono (Kd.R_keep (IsS60.apart (show IsS60 w _ gb311 l0 t316 t317 from by repeat (first | (with_reducible first | exact HI311.out | apply IsS60.alloc | apply IsS60.drewN | apply IsS60.drew | apply IsS60.set_1 | apply IsS60.set_2) | exact HI311.out)) (by (with_reducible repeat (first | apply Kd.R_alloc | apply Kd.R_drewN | apply Kd.R_drew)); exact HO315.out) (by decide)) hk (fun _ h => h.2)) (fun _ h => h.1)); have n1_ := A_ (hb); have n2_ := A_ (hi); clear HO315; clear HB; clear HI311; have HO315 := n0_; have HB := n1_; have HI311 := n2_; clear n0_ n1_ n2_; (try clear hb hk hi)) | ((with_reducible refine gate_callee (f := 56) rfl ?_); refine gl_ (some 24) Tryz.func56 #[.pointer (some ⟨gb311, 0, none⟩), .int .i64 9] ?_; (with_reducible refine (spec_l1Cur_pick.calls gb311 l0 t319 t320 9 t321 t322 t323 w _ ?side1 ?side2 A4.out).mono ?_); (case side1 => repeat (first | (with_reducible first | exact HI311.out | apply IsS60.alloc | apply IsS60.drewN | apply IsS60.drew | apply IsS60.set_1 | apply IsS60.set_2) | exact HI311.out)); (case side2 => repeat (first | (with_reducible first | exact HB.out | apply below_alloc | apply pw_below_drewN | apply below_drew1 | refine below_set ?_ (IsS60.ge HI311.out)) | exact HB.out)); rintro e w9 ⟨rfl, hi, hb, hk⟩; refine ⟨_, rfl, ?_⟩; have n0_ := A_ (Kd.R_mono (Kd.R_keep (IsS60.apart (show IsS60 w _ gb311 l0 t319 t320 from by repeat (first | (with_reducible first | exact HI311.out | apply IsS60.alloc | apply IsS60.drewN | apply IsS60.drew | apply IsS60.set_1 | apply IsS60.set_2) | exact HI311.out)) (by (with_reducible repeat (first | apply Kd.R_alloc | apply Kd.R_drewN | apply Kd.R_drew)); exact HO315.out) (by decide)) hk (fun _ h => h.2)) (fun _ h => h.1)); have n1_ := A_ (hb); have n2_ := A_ (hi); clear HO315; clear HB; clear HI311; have HO315 := n0_; have HB := n1_; have HI311 := n2_; clear n0_ n1_ n2_; (try clear hb hk hi)))
 go_ret3
 exact ⟨_, rt_, by (with_reducible repeat (first | apply Kd.R_alloc | apply Kd.R_drewN | apply Kd.R_drew)); exact HO315.out, by repeat (first | (with_reducible first | exact HB.out | apply below_alloc | apply pw_below_drewN | apply below_drew1 | refine below_set ?_ (IsS60.ge HI311.out)) | exact HB.out)⟩

/-! ### impl_areRunnersOf: function 57 -/
def impl_areRunnersOf.f (a0 : Int) (l1 : List (S35)) (a2 : Int) : Option (Bool) := (impl_AreRunners.f a0 l1).bind fun t324 => (if t324 = true then (if (l1.length : Int) > 1 then ((impl_within.f a2 0 (wrap64 ((l1.length : Int) - 1))).bind fun t325 => (some t325)) else (some false)) else (some false))
set_option maxHeartbeats 8000000 in
set_option maxRecDepth 100000 in
theorem impl_areRunnersOf.calls (a0 : Int) (A1 : Option Addr) (c1 : Nat) (l1 : List (S35)) (a2 : Int) (r : Bool) (w : World) (hr1 : Kd.C k35 w A1 l1.length l1) (hc1 : l1.length ≤ c1) (h : impl_areRunnersOf.f a0 l1 a2 = some r) :
  Calls Tryz.prog 57 #[.int .i64 a0, .slice A1 l1.length c1, .int .i64 a2] w fun e w' => e = .returned (.bool r) ∧ Below w.heap.size w w' := by
 have HR1 := A_ hr1
 have HC1 := A_ hc1
 clear hr1 hc1
 have HB := A_ (Below.refl w.heap.size w)
 have H := h
 unfold impl_areRunnersOf.f at H
 clear h
 replace H := ob_ H
 obtain ⟨t324, A4, H⟩ := H
 (try dsimp only at H)
 by_cases c5 : t324 = true
 ·
  subst c5
  rw [if_pos rfl] at H
  by_cases c6 : (l1.length : Int) > 1
  ·
   rw [if_pos c6] at H
   have c6b0 : decide (1 < (l1.length : Int)) = true := decide_eq_true c6
   have c6b1 : decide (1 < l1.length) = true := decide_eq_true (by omega)
   clear c6
   replace H := Option.bind_eq_some_iff.mp H
   obtain ⟨t325, A70, H⟩ := H
   replace H : (some t325) = some r := H
   have A7 := A_ A70
   clear A70
   obtain rfl := Option.some.inj H
   go_enter Tryz.func57, Tryz.ntmps57
   go_wp2_with (first | ((with_reducible refine gate_callee (f := 42) rfl ?_); refine gl_ (some 9) Tryz.func42 #[.int .i64 a0, .slice A1 l1.length c1] ?_; (with_reducible refine (impl_AreRunners.calls a0 _ _ l1 true _ ?side1 ?side2 A4.out).mono ?_); (case side1 => repeat (first | exact HR1.out | (with_reducible refine Kd.C_alloc ?_ _) | (with_reducible refine Kd.C_drewN ?_ _) | (with_reducible refine Kd.C_drew ?_))); (case side2 => exact HC1.out); rintro e w8 ⟨rfl, hb⟩; refine ⟨_, rfl, ?_⟩; replace HB := A_ (below_step bw_ hb); (try clear hb)) | (go_at_call 83; (with_reducible refine (impl_within.calls a2 0 (wrap64 ((l1.length : Int) - 1)) t325 _ A7.out).mono ?_); rintro e w' ⟨rfl, ⟨nd, rfl⟩⟩))
   go_ret
   exact ⟨rt_, bw_⟩
  ·
   rw [if_neg c6] at H
   have c6b0 : decide (1 < (l1.length : Int)) = false := decide_eq_false c6
   have c6b1 : decide (1 < l1.length) = false := decide_eq_false (by omega)
   clear c6
   obtain rfl := Option.some.inj H
   go_enter Tryz.func57, Tryz.ntmps57
   go_wp2_with (first | ((with_reducible refine gate_callee (f := 42) rfl ?_); refine gl_ (some 9) Tryz.func42 #[.int .i64 a0, .slice A1 l1.length c1] ?_; (with_reducible refine (impl_AreRunners.calls a0 _ _ l1 true _ ?side1 ?side2 A4.out).mono ?_); (case side1 => repeat (first | exact HR1.out | (with_reducible refine Kd.C_alloc ?_ _) | (with_reducible refine Kd.C_drewN ?_ _) | (with_reducible refine Kd.C_drew ?_))); (case side2 => exact HC1.out); rintro e w9 ⟨rfl, hb⟩; refine ⟨_, rfl, ?_⟩; replace HB := A_ (below_step bw_ hb); (try clear hb)))
   go_ret
   exact ⟨rt_, bw_⟩
 ·
  replace c5 := Bool.eq_false_iff.mpr c5
  subst c5
  rw [if_neg (show ¬ (false = true) by decide)] at H
  obtain rfl := Option.some.inj H
  go_enter Tryz.func57, Tryz.ntmps57
  go_wp2_with (first | ((with_reducible refine gate_callee (f := 42) rfl ?_); refine gl_ (some 9) Tryz.func42 #[.int .i64 a0, .slice A1 l1.length c1] ?_; (with_reducible refine (impl_AreRunners.calls a0 _ _ l1 false _ ?side1 ?side2 A4.out).mono ?_); (case side1 => repeat (first | exact HR1.out | (with_reducible refine Kd.C_alloc ?_ _) | (with_reducible refine Kd.C_drewN ?_ _) | (with_reducible refine Kd.C_drew ?_))); (case side2 => exact HC1.out); rintro e w10 ⟨rfl, hb⟩; refine ⟨_, rfl, ?_⟩; replace HB := A_ (below_step bw_ hb); (try clear hb)))
  go_ret
  exact ⟨rt_, bw_⟩

/-! ### impl_divisorOf: function 91 -/
def impl_divisorOf.l0 : Nat → Int → Int → Option (Int)
  | 0, _, _ => none
  | k + 1, x0, x1 => if x1 > 0 then (if x1 = 0 then (none) else (impl_divisorOf.l0 k x1 (Int.tmod x0 x1))) else (some x0)
def impl_divisorOf.f (k : Nat) (a0 : Int) (a1 : Int) : Option (Int) := impl_divisorOf.l0 k a0 a1


set_option maxHeartbeats 8000000 in
set_option maxRecDepth 100000 in
theorem impl_divisorOf.calls (k : Nat) (a0 : Int) (a1 : Int) (r : Int) (w : World) (h : impl_divisorOf.f k a0 a1 = some r) :
  Calls Tryz.prog 91 #[.int .i64 a0, .int .i64 a1] w fun e w' => e = .returned (.int .i64 r) ∧ Drawn0 w w' := by
 have H : (impl_divisorOf.l0 k a0 a1) = some r := h
 clear h
 have H' := A_ H
 clear H
 go_enter Tryz.func91, Tryz.ntmps91
 go_wp2
 repeat (go_quiet (fail); try go_wp2)
 go_loopg [0, 1] k (fun kq v0 v1 w' => ∃ (x0_1 : Int) (x1_1 : Int), v0 = .int .i64 x0_1 ∧ v1 = .int .i64 x1_1 ∧ Aside0 (impl_divisorOf.l0 kq x0_1 x1_1 = some r) ∧ Aside0 (kq ≤ k) ∧ Drawn0 w w')
 case atStart => exact ⟨(a0), (a1), (rs_), (rs_), H', ⟨Nat.le_refl _⟩, by repeat (first | exact Drawn0.refl _ | apply Drawn0.step)⟩
 case round =>
  clear H'
  try clear p2
  obtain ⟨x0_1, x1_1, rfl, rfl, HA, HK1, ⟨m1, rfl⟩⟩ := hrel
  cases gk with
    | zero => exact absurd HA.out (by simp [impl_divisorOf.l0])
    | succ k1 =>
   have H := HA.out
   clear HA
   simp only [impl_divisorOf.l0] at H
   by_cases c3 : x1_1 > 0
   ·
    rw [if_pos c3] at H
    replace c3 := decide_eq_true (gt_iff_lt.mp c3)
    by_cases c4 : x1_1 = 0
    ·
     rw [if_pos c4] at H
     exact absurd H (by simp)
    ·
     rw [if_neg c4] at H
     have c4b0 : (x1_1 == 0) = false := beq_eq_false_iff_ne.mpr c4
     have c4b1 : (x1_1 != 0) = true := bne_iff_ne.mpr c4
     have H' := A_ H
     clear H
     go_wp2
     repeat (go_quiet (fail); try go_wp2)
     go_roundg k1
     case measure => have := HK1.out; omega
     case rel => exact ⟨(x1_1), (Int.tmod x0_1 x1_1), (rs_), (rs_), H', ⟨by have := HK1.out; omega⟩, by repeat (first | exact Drawn0.refl _ | apply Drawn0.step)⟩
   ·
    rw [if_neg c3] at H
    replace c3 := decide_eq_false (mt gt_iff_lt.mpr c3)
    obtain rfl := Option.some.inj H
    go_wp2
    repeat (go_quiet (fail); try go_wp2)
    go_ret
    exact ⟨rs_, by repeat (first | exact Drawn0.refl _ | apply Drawn0.step)⟩

/-! ### impl_runPeriod: function 58 -/
def impl_runPeriod.l0 : Nat → Int → Int → List (S35) → Int → Int → Option (Int)
  | 0, _, _, _, _, _ => none
  | k + 1, x0, x5, x9, x10, x11 => if x11 < x10 then (if 0 ≤ x11 then (if x11 < (x9.length : Int) then ((impl_divisorOf.f k x5 ((rd_T35 x9 x11).f1)).bind fun t328 => (impl_runPeriod.l0 k x0 t328 x9 x10 (wrap64 (x11 + 1)))) else (none)) else (none)) else (if x5 = 0 then (none) else (some (wrap64 (Int.tdiv x0 x5))))
def impl_runPeriod.f (k : Nat) (a0 : Int) (l1 : List (S35)) : Option (Int) := impl_runPeriod.l0 k a0 a0 l1 (l1.length : Int) 0


set_option maxHeartbeats 8000000 in
set_option maxRecDepth 100000 in
theorem impl_runPeriod.calls (k : Nat) (a0 : Int) (A1 : Option Addr) (c1 : Nat) (l1 : List (S35)) (r : Int) (w : World) (hr1 : Kd.C k35 w A1 l1.length l1) (hc1 : l1.length ≤ c1) (h : impl_runPeriod.f k a0 l1 = some r) :
  Calls Tryz.prog 58 #[.int .i64 a0, .slice A1 l1.length c1] w fun e w' => e = .returned (.int .i64 r) ∧ Below w.heap.size w w' := by
 have hu35 := Tryz.underlying35
 have HR1 := A_ hr1
 have HC1 := A_ hc1
 clear hr1 hc1
 have HB := A_ (Below.refl w.heap.size w)
 have H : (impl_runPeriod.l0 k a0 a0 l1 (l1.length : Int) 0) = some r := h
 clear h
 have H' := A_ H
 clear H
 go_enter Tryz.func58, Tryz.ntmps58
 go_wp2
 go_loopg [5, 11] k (fun kq v5 v11 w' => ∃ (x5_1 : Int) (x11_1 : Int), v5 = .int .i64 x5_1 ∧ v11 = .int .i64 x11_1 ∧ Aside0 (impl_runPeriod.l0 kq a0 x5_1 l1 (l1.length : Int) x11_1 = some r) ∧ Aside0 (kq ≤ k) ∧ Aside0 (Below w.heap.size w w'))
 case atStart => exact ⟨(a0), (0), (rs_), (rs_), H', ⟨Nat.le_refl _⟩, ⟨bw_⟩⟩
 case round =>
  clear H'
  try clear c1
  try clear p2
  obtain ⟨x5_1, x11_1, rfl, rfl, HA, HK1, HB⟩ := hrel
  cases gk with
    | zero => exact absurd HA.out (by simp [impl_runPeriod.l0])
    | succ k1 =>
   have H := HA.out
   clear HA
   simp only [impl_runPeriod.l0] at H
   by_cases c3 : x11_1 < (l1.length : Int)
   ·
    rw [if_pos c3] at H
    replace c3 := decide_eq_true c3
    by_cases c4 : 0 ≤ x11_1
    ·
     rw [if_pos c4] at H
     replace c4 := decide_eq_true c4
     by_cases c5 : x11_1 < (l1.length : Int)
     ·
      rw [if_pos c5] at H
      replace c5 := decide_eq_true c5
      replace H := ob_ H
      obtain ⟨t328, A6, H⟩ := H
      (try dsimp only at H)
      have H' := A_ H
      clear H
      have p326 : 0 ≤ (x11_1 : Int) := of_decide_eq_true (by first | (with_reducible assumption) | assumption)
      have q326 : x11_1 < (l1.length : Int) := of_decide_eq_true (by first | (with_reducible assumption) | assumption)
      obtain ⟨ad326, e326, hx326_0, hx326_1⟩ := at_T35 HR1.out x11_1 p326 q326
      cases e326
      replace hx326_0 := (HB.out.cell (World.block_lt_of_cell? w _ hx326_0)).trans hx326_0
      replace hx326_1 := (HB.out.cell (World.block_lt_of_cell? w _ hx326_1)).trans hx326_1
      replace p326 := eq_true p326
      replace q326 := eq_true q326
      go_wp2_with (first | ((with_reducible refine gate_dst (N := 7) rfl ?_); refine be_ 7 #[.int .i64 0, .int .i64 0] 35 ?_; intro gb327 hg w7 hbox hb; have BK327 := A_ hbox; have GW327 := A_ (bz_ (w := w) hg); have GE327 := A_ (bz_ (w := w) hg); replace HB := A_ (below_step bw_ hb); clear hb hbox hg; have hcz8_0 := hz_ BK327.out 0 (.int .i64 0); have hcz8_1 := hz_ BK327.out 1 (.int .i64 0); have hfz8_0 := blk_frozen BK327.out 0; have hfz8_1 := blk_frozen BK327.out 1) | ((with_reducible refine gate_callee (f := 91) rfl ?_); refine gl_ (some 18) Tryz.func91 #[.int .i64 x5_1, .int .i64 ((rd_T35 l1 x11_1).f1)] ?_; (with_reducible refine (impl_divisorOf.calls k1 x5_1 ((rd_T35 l1 x11_1).f1) t328 _ A6.out).mono ?_); rintro e w' ⟨rfl, ⟨nd, rfl⟩⟩; refine ⟨_, rfl, ?_⟩))
      go_roundg k1
      case measure => have := HK1.out; omega
      case rel => exact ⟨(t328), (wrap64 (x11_1 + 1)), (rs_), (rs_), H', ⟨by have := HK1.out; omega⟩, ⟨bw_⟩⟩
     ·
      rw [if_neg c5] at H
      exact absurd H (by simp)
    ·
     rw [if_neg c4] at H
     exact absurd H (by simp)
   ·
    rw [if_neg c3] at H
    replace c3 := decide_eq_false c3
    by_cases c9 : x5_1 = 0
    ·
     rw [if_pos c9] at H
     exact absurd H (by simp)
    ·
     rw [if_neg c9] at H
     have c9b0 : (x5_1 == 0) = false := beq_eq_false_iff_ne.mpr c9
     have c9b1 : (x5_1 != 0) = true := bne_iff_ne.mpr c9
     obtain rfl := Option.some.inj H
     go_wp2
     go_ret
     exact ⟨rt_, bw_⟩

/-! ### impl_floorDiv: function 106 -/
def impl_floorDiv.f (a0 : Int) (a1 : Int) : Option (Int) := if a1 = 0 then (none) else (if (Int.tmod a0 a1) < 0 then (some (wrap64 ((wrap64 (Int.tdiv a0 a1)) - 1))) else (some (wrap64 (Int.tdiv a0 a1))))
set_option maxHeartbeats 8000000 in
set_option maxRecDepth 100000 in
theorem impl_floorDiv.calls (a0 : Int) (a1 : Int) (r : Int) (w : World) (h : impl_floorDiv.f a0 a1 = some r) :
  Calls Tryz.prog 106 #[.int .i64 a0, .int .i64 a1] w fun e w' => e = .returned (.int .i64 r) ∧ Drawn0 w w' := by
 have H := h
 unfold impl_floorDiv.f at H
 clear h
 by_cases c3 : a1 = 0
 ·
  rw [if_pos c3] at H
  exact absurd H (by simp)
 ·
  rw [if_neg c3] at H
  have c3b0 : (a1 == 0) = false := beq_eq_false_iff_ne.mpr c3
  have c3b1 : (a1 != 0) = true := bne_iff_ne.mpr c3
  by_cases c4 : (Int.tmod a0 a1) < 0
  ·
   rw [if_pos c4] at H
   replace c4 := decide_eq_true c4
   obtain rfl := Option.some.inj H
   go_enter Tryz.func106, Tryz.ntmps106
   go_wp2
   go_ret
   exact ⟨rs_, by repeat (first | exact Drawn0.refl _ | apply Drawn0.step)⟩
  ·
   rw [if_neg c4] at H
   replace c4 := decide_eq_false c4
   obtain rfl := Option.some.inj H
   go_enter Tryz.func106, Tryz.ntmps106
   go_wp2
   go_ret
   exact ⟨rs_, by repeat (first | exact Drawn0.refl _ | apply Drawn0.step)⟩

/-! ### impl_around: function 92 -/
def impl_around.f (a0 : Int) (a1 : Int) : Option (Int) := (impl_floorDiv.f a0 a1).bind fun t329 => (some (wrap64 (a0 - (wrap64 (a1 * t329)))))
set_option maxHeartbeats 8000000 in
set_option maxRecDepth 100000 in
theorem impl_around.calls (a0 : Int) (a1 : Int) (r : Int) (w : World) (h : impl_around.f a0 a1 = some r) :
  Calls Tryz.prog 92 #[.int .i64 a0, .int .i64 a1] w fun e w' => e = .returned (.int .i64 r) ∧ Drawn0 w w' := by
 have H : ((impl_floorDiv.f a0 a1).bind fun t329 => (some (wrap64 (a0 - (wrap64 (a1 * t329)))))) = some r := h
 clear h
 replace H := ob_ H
 obtain ⟨t329, A3, H⟩ := H
 (try dsimp only at H)
 obtain rfl := Option.some.inj H
 go_enter Tryz.func92, Tryz.ntmps92
 go_wp2_with (first | ((with_reducible refine gate_callee (f := 106) rfl ?_); refine gl_ (some 9) Tryz.func106 #[.int .i64 a0, .int .i64 a1] ?_; (with_reducible refine (impl_floorDiv.calls a0 a1 t329 _ A3.out).mono ?_); rintro e w' ⟨rfl, ⟨nd, rfl⟩⟩; refine ⟨_, rfl, ?_⟩))
 go_ret
 exact ⟨rs_, by repeat (first | exact Drawn0.refl _ | apply Drawn0.step)⟩

/-! ### impl_nearestOther: function 59 -/
def impl_nearestOther.l0 : Nat → Int → List (S35) → Int → Int → Int → List (S35) → Int → Int → Option (Int)
  | 0, _, _, _, _, _, _, _, _ => none
  | k + 1, x0, x1, x2, x3, x9, x14, x15, x16 => if x16 < x15 then (if 0 ≤ x16 then (if x16 < (x14.length : Int) then (if x16 = x2 then (impl_nearestOther.l0 k x0 x1 x2 x3 x9 x14 x15 (wrap64 (x16 + 1))) else ((impl_farAt.f ((rd_T35 x14 x16).f0) ((rd_T35 x14 x16).f1) x3).bind fun t332 => (if 0 ≤ x2 then (if x2 < (x1.length : Int) then ((impl_farAt.f ((rd_T35 x1 x2).f0) ((rd_T35 x1 x2).f1) x3).bind fun t334 => ((impl_around.f (wrap64 (t332 - t334)) x0).bind fun t335 => (impl_nearestOther.l0 k x0 x1 x2 x3 (mn (mn x9 t335) (wrap64 (x0 - t335))) x14 x15 (wrap64 (x16 + 1))))) else (none)) else (none)))) else (none)) else (none)) else (some x9)
def impl_nearestOther.f (k : Nat) (a0 : Int) (l1 : List (S35)) (a2 : Int) (a3 : Int) : Option (Int) := impl_nearestOther.l0 k a0 l1 a2 a3 a0 l1 (l1.length : Int) 0


def impl_nearestOther.T6 : Bool × List (List Nat × List Nat) := (true, [([], []), ([], []), ([0, 1], [0, 1]), ([], []), ([], []), ([3, 4], [3, 4]), ([5], [5]), ([], []), ([6, 7, 2], [6, 7]), ([2, 8], [2, 8]), ([], []), ([9, 10, 8], [9, 10]), ([11, 11, 0, 1, 2, 3, 4, 5, 6, 7, 8, 9, 10, 11], [11])])
def impl_nearestOther.B6 : List Nat := [0, 0, 3, 0, 0, 24, 56, 0, 255, 511, 0, 2047, 4095]
theorem impl_nearestOther.tab6 : rtab .any (opsOf Tryz.f59 6) = impl_nearestOther.T6 := by kernel_rfl
theorem impl_nearestOther.bits6 : waitsOk impl_nearestOther.T6.2 impl_nearestOther.B6 = true := by kernel_rfl
set_option maxHeartbeats 8000000 in
set_option maxRecDepth 100000 in
theorem impl_nearestOther.calls (k : Nat) (a0 : Int) (A1 : Option Addr) (c1 : Nat) (l1 : List (S35)) (a2 : Int) (a3 : Int) (r : Int) (w : World) (hr1 : Kd.C k35 w A1 l1.length l1) (hc1 : l1.length ≤ c1) (h : impl_nearestOther.f k a0 l1 a2 a3 = some r) :
  Calls Tryz.prog 59 #[.int .i64 a0, .slice A1 l1.length c1, .int .i64 a2, .int .i64 a3] w fun e w' => e = .returned (.int .i64 r) ∧ Below w.heap.size w w' := by
 have hu35 := Tryz.underlying35
 have HR1 := A_ hr1
 have HC1 := A_ hc1
 clear hr1 hc1
 have HB := A_ (Below.refl w.heap.size w)
 have H : (impl_nearestOther.l0 k a0 l1 a2 a3 a0 l1 (l1.length : Int) 0) = some r := h
 clear h
 have H' := A_ H
 clear H
 go_enter Tryz.func59, Tryz.ntmps59
 go_wp2
 go_loopg [9, 16] k (fun kq v9 v16 w' => ∃ (x9_1 : Int) (x16_1 : Int), v9 = .int .i64 x9_1 ∧ v16 = .int .i64 x16_1 ∧ Aside0 (impl_nearestOther.l0 kq a0 l1 a2 a3 x9_1 l1 (l1.length : Int) x16_1 = some r) ∧ Aside0 (kq ≤ k) ∧ Aside0 (Below w.heap.size w w'))
 case atStart => exact ⟨(a0), (0), (rs_), (rs_), H', ⟨Nat.le_refl _⟩, ⟨bw_⟩⟩
 case round =>
  clear H'
  try clear c1
  try clear p2
  obtain ⟨x9_1, x16_1, rfl, rfl, HA, HK1, HB⟩ := hrel
  cases gk with
    | zero => exact absurd HA.out (by simp [impl_nearestOther.l0])
    | succ k1 =>
   have H := HA.out
   clear HA
   simp only [impl_nearestOther.l0] at H
   by_cases c5 : x16_1 < (l1.length : Int)
   ·
    rw [if_pos c5] at H
    replace c5 := decide_eq_true c5
    by_cases c6 : 0 ≤ x16_1
    ·
     rw [if_pos c6] at H
     replace c6 := decide_eq_true c6
     by_cases c7 : x16_1 < (l1.length : Int)
     ·
      rw [if_pos c7] at H
      replace c7 := decide_eq_true c7
      by_cases c8 : x16_1 = a2
      ·
       rw [if_pos c8] at H
       have c8b0 : (x16_1 == a2) = true := beq_iff_eq.mpr c8
       have c8b1 : (x16_1 != a2) = false := bne_eq_false_iff_eq.mpr c8
       clear c8
       have H' := A_ H
       clear H
       have p330 : 0 ≤ (x16_1 : Int) := of_decide_eq_true (by first | (with_reducible assumption) | assumption)
       have q330 : x16_1 < (l1.length : Int) := of_decide_eq_true (by first | (with_reducible assumption) | assumption)
       obtain ⟨ad330, e330, hx330_0, hx330_1⟩ := at_T35 HR1.out x16_1 p330 q330
       cases e330
       replace hx330_0 := (HB.out.cell (World.block_lt_of_cell? w _ hx330_0)).trans hx330_0
       replace hx330_1 := (HB.out.cell (World.block_lt_of_cell? w _ hx330_1)).trans hx330_1
       replace p330 := eq_true p330
       replace q330 := eq_true q330
       go_wp2_with (first | ((with_reducible refine gate_dst (N := 11) rfl ?_); refine be_ 11 #[.int .i64 0, .int .i64 0] 35 ?_; intro gb331 hg w9 hbox hb; have BK331 := A_ hbox; have GW331 := A_ (bz_ (w := w) hg); have GE331 := A_ (bz_ (w := w) hg); replace HB := A_ (below_step bw_ hb); clear hb hbox hg; have hcz10_0 := hz_ BK331.out 0 (.int .i64 0); have hcz10_1 := hz_ BK331.out 1 (.int .i64 0); have hfz10_0 := blk_frozen BK331.out 0; have hfz10_1 := blk_frozen BK331.out 1))
       go_roundg k1
       case measure => have := HK1.out; omega
       case rel => exact ⟨(x9_1), (wrap64 (x16_1 + 1)), (rs_), (rs_), H', ⟨by have := HK1.out; omega⟩, ⟨bw_⟩⟩
      ·
       rw [if_neg c8] at H
       have c8b0 : (x16_1 == a2) = false := beq_eq_false_iff_ne.mpr c8
       have c8b1 : (x16_1 != a2) = true := bne_iff_ne.mpr c8
       replace H := ob_ H
       obtain ⟨t332, A11, H⟩ := H
       (try dsimp only at H)
       by_cases c12 : 0 ≤ a2
       ·
        rw [if_pos c12] at H
        replace c12 := decide_eq_true c12
        by_cases c13 : a2 < (l1.length : Int)
        ·
         rw [if_pos c13] at H
         replace c13 := decide_eq_true c13
         replace H := ob_ H
         obtain ⟨t334, A14, H⟩ := H
         (try dsimp only at H)
         replace H := ob_ H
         obtain ⟨t335, A15, H⟩ := H
         (try dsimp only at H)
         obtain ⟨ji16, hji16⟩ : ∃ j_ : Int, (mn x9_1 t335) = j_ := ⟨_, rfl⟩
         replace H : (impl_nearestOther.l0 k1 a0 l1 a2 a3 (mn (ji16) (wrap64 (a0 - t335))) l1 (l1.length : Int) (wrap64 (x16_1 + 1))) = some r := by first | (rw [hji16] at H; exact H) | (simp only [hji16] at H ⊢; exact H)
         (try rw [hji16] at A11)
         (try rw [hji16] at A14)
         (try rw [hji16] at A15)
         have hji16_ : (if t335 < x9_1 then t335 else x9_1) = ji16 := hji16
         obtain ⟨ji17, hji17⟩ : ∃ j_ : Int, (mn (ji16) (wrap64 (a0 - t335))) = j_ := ⟨_, rfl⟩
         replace H : (impl_nearestOther.l0 k1 a0 l1 a2 a3 ji17 l1 (l1.length : Int) (wrap64 (x16_1 + 1))) = some r := by first | (rw [hji17] at H; exact H) | (simp only [hji17] at H ⊢; exact H)
         (try rw [hji17] at A11)
         (try rw [hji17] at A14)
         (try rw [hji17] at A15)
         have hji17_ : (if (wrap64 (a0 - t335)) < (ji16) then (wrap64 (a0 - t335)) else (ji16)) = ji17 := hji17
         have H' := A_ H
         clear H
         have p330 : 0 ≤ (x16_1 : Int) := of_decide_eq_true (by first | (with_reducible assumption) | assumption)
         have q330 : x16_1 < (l1.length : Int) := of_decide_eq_true (by first | (with_reducible assumption) | assumption)
         obtain ⟨ad330, e330, hx330_0, hx330_1⟩ := at_T35 HR1.out x16_1 p330 q330
         cases e330
         replace hx330_0 := (HB.out.cell (World.block_lt_of_cell? w _ hx330_0)).trans hx330_0
         replace hx330_1 := (HB.out.cell (World.block_lt_of_cell? w _ hx330_1)).trans hx330_1
         replace p330 := eq_true p330
         replace q330 := eq_true q330
         try go_wp2_with (first | ((with_reducible refine gate_dst (N := 11) rfl ?_); refine be_ 11 #[.int .i64 0, .int .i64 0] 35 ?_; intro gb331 hg w18 hbox hb; have BK331 := A_ hbox; have GW331 := A_ (bz_ (w := w) hg); have GE331 := A_ (bz_ (w := w) hg); replace HB := A_ (below_step bw_ hb); clear hb hbox hg; have hcz19_0 := hz_ BK331.out 0 (.int .i64 0); have hcz19_1 := hz_ BK331.out 1 (.int .i64 0); have hfz19_0 := blk_frozen BK331.out 0; have hfz19_1 := blk_frozen BK331.out 1))
         have n0_ : Aside0 (((w18.setCell ⟨gb331, 0, none⟩ (.int .i64 ((rd_T35 l1 x16_1).f0))).setCell ⟨gb331, 1, none⟩ (.int .i64 ((rd_T35 l1 x16_1).f1))).heap[gb331]? = some (.cells #[.int .i64 ((rd_T35 l1 x16_1).f0), .int .i64 ((rd_T35 l1 x16_1).f1)] 35 (0, 0))) := ⟨by (with_reducible repeat (first | refine blk_drewN ?_ _ | refine blk_drew ?_ | refine blk_alloc ?_ _)); refine blk_put (cs := #[.int .i64 ((rd_T35 l1 x16_1).f0), .int .i64 0]) ?_ 1 _ rfl; (with_reducible repeat (first | refine blk_drewN ?_ _ | refine blk_drew ?_ | refine blk_alloc ?_ _)); refine blk_put (cs := #[.int .i64 0, .int .i64 0]) ?_ 0 _ rfl; (with_reducible repeat (first | refine blk_drewN ?_ _ | refine blk_drew ?_ | refine blk_alloc ?_ _)); exact BK331.out⟩
         have n1_ : Aside0 (Below w.heap.size w ((w18.setCell ⟨gb331, 0, none⟩ (.int .i64 ((rd_T35 l1 x16_1).f0))).setCell ⟨gb331, 1, none⟩ (.int .i64 ((rd_T35 l1 x16_1).f1)))) := ⟨bw_⟩
         (try clear BK331)
         (try clear HB)
         generalize ((w18.setCell ⟨gb331, 0, none⟩ (.int .i64 ((rd_T35 l1 x16_1).f0))).setCell ⟨gb331, 1, none⟩ (.int .i64 ((rd_T35 l1 x16_1).f1))) = w20 at n0_ n1_ ⊢
         have BK331 := n0_
         have HB := n1_
         clear n0_ n1_
         replace BK331 := A_ (blk_drew BK331.out)
         replace HB := A_ (below_drew1 HB.out)
         have p333 : 0 ≤ (a2 : Int) := of_decide_eq_true (by first | (with_reducible assumption) | assumption)
         have q333 : a2 < (l1.length : Int) := of_decide_eq_true (by first | (with_reducible assumption) | assumption)
         obtain ⟨ad333, e333, hx333_0, hx333_1⟩ := at_T35 HR1.out a2 p333 q333
         have hw333_1 := hx333_1
         have hw333_0 := hx333_0
         obtain rfl : ad330 = ad333 := (by injection e333)
         replace hx333_0 := (HB.out.cell (World.block_lt_of_cell? w _ hx333_0)).trans hx333_0
         replace hx333_1 := (HB.out.cell (World.block_lt_of_cell? w _ hx333_1)).trans hx333_1
         replace p333 := eq_true p333
         replace q333 := eq_true q333
         refine start_ (n := 13) (S := fun w' => w'.cell? ⟨gb331, 0, none⟩ = some (.int .i64 ((rd_T35 l1 x16_1).f0)) ∧ w'.cell? ⟨gb331, 1, none⟩ = some (.int .i64 ((rd_T35 l1 x16_1).f1)) ∧ w'.cell? (ad330.add ((a2).toNat * 2)) = some (.int .i64 ((rd_T35 l1 a2).f0)) ∧ w'.cell? ⟨(ad330.add ((a2).toNat * 2)).block, (ad330.add ((a2).toNat * 2)).off + 1, none⟩ = some (.int .i64 ((rd_T35 l1 a2).f1))) (ds := []) #[false, false, false, false, false, false, false, false, false, false, false, false, false] (by kernel_rfl) rfl rfl ⟨(blk_cell BK331.out 0).trans rfl, (blk_cell BK331.out 1).trans rfl, ((HB.out.cell (World.block_lt_of_cell? w _ hw333_0)).trans hw333_0), ((HB.out.cell (World.block_lt_of_cell? w _ hw333_1)).trans hw333_1)⟩ (fun hHeld => ?_); refine with_tabW impl_nearestOther.tab6 impl_nearestOther.bits6 (fun HT_ HW_ => ?_)
         generalize w20.drew = w21 at BK331 HB hx333_0 hx333_1 hHeld ⊢
         refine pu_ 1 25 13 2 ?_
         refine pu_ 3 27 13 10 ?_
         refine pu_ 4 28 13 26 ?_
         refine pu_ 5 29 13 58 ?_
         refine pu_ 7 31 13 186 ?_
         refine pu_ 10 34 13 1210 ?_
         refine tk_ 0 24 13 1211 hHeld ?_
         refine tk_ 6 30 13 1275 hHeld ?_
         refine one_ (i := 2) (N := some 26) (pm_ 13 1279) rfl rfl (one_of HT_.out (by kernel_rfl)) (by decide) (fun K hK => ?_)
         refine goes_ Tryz.func47 (by kernel_rfl) rfl #[.agg #[.int .i64 ((rd_T35 l1 x16_1).f0), .int .i64 ((rd_T35 l1 x16_1).f1)], .int .i64 a3] (by rfl) rfl rfl (by (try simp only [List.map_toArray, List.map_cons, List.map_nil]); first | done | rfl | (simp only [List.length_drop, List.length_take]; rfl)) ?_
         with_reducible refine (impl_farAt.calls ((rd_T35 l1 x16_1).f0) ((rd_T35 l1 x16_1).f1) a3 t332 _ A11.out).mono ?_
         rintro e w22 ⟨rfl, hb⟩
         refine ⟨_, rfl, ?_⟩
         replace HB := A_ (below_step bw_ hb)
         replace BK331 := A_ (bb_ BK331.out hb)
         (try clear hb)
         (try clear hb2)
         (try clear hk)
         (try clear hi)
         refine hK.out _ _ ⟨(blk_cell BK331.out 0).trans rfl, (blk_cell BK331.out 1).trans rfl, ((HB.out.cell (World.block_lt_of_cell? w _ hw333_0)).trans hw333_0), ((HB.out.cell (World.block_lt_of_cell? w _ hw333_1)).trans hw333_1)⟩ (fun hHeld => ?_)
         clear hK K
         refine norm_ (a' := ?_) ?_ ?_
         rotate_left
         ·
          show Act.put _ (some 26) _ = _
          simp only [Act.put, List.setIfInBounds_toArray, List.set_cons_zero, List.set_cons_succ, i64_w, i32_w]
          rfl
         refine one_ (i := 8) (N := some 32) (pm_ 13 1535) rfl rfl (one_of HT_.out (by kernel_rfl)) (by decide) (fun K hK => ?_)
         refine goes_ Tryz.func47 (by kernel_rfl) rfl #[.agg #[.int .i64 ((rd_T35 l1 a2).f0), .int .i64 ((rd_T35 l1 a2).f1)], .int .i64 a3] (by rfl) rfl rfl (by (try simp only [List.map_toArray, List.map_cons, List.map_nil]); first | done | rfl | (simp only [List.length_drop, List.length_take]; rfl)) ?_
         with_reducible refine (impl_farAt.calls ((rd_T35 l1 a2).f0) ((rd_T35 l1 a2).f1) a3 t334 _ A14.out).mono ?_
         rintro e w23 ⟨rfl, hb⟩
         refine ⟨_, rfl, ?_⟩
         replace HB := A_ (below_step bw_ hb)
         replace BK331 := A_ (bb_ BK331.out hb)
         (try clear hb)
         (try clear hb2)
         (try clear hk)
         (try clear hi)
         refine hK.out _ _ ⟨(blk_cell BK331.out 0).trans rfl, (blk_cell BK331.out 1).trans rfl, ((HB.out.cell (World.block_lt_of_cell? w _ hw333_0)).trans hw333_0), ((HB.out.cell (World.block_lt_of_cell? w _ hw333_1)).trans hw333_1)⟩ (fun hHeld => ?_)
         clear hK K
         refine norm_ (a' := ?_) ?_ ?_
         rotate_left
         ·
          show Act.put _ (some 32) _ = _
          simp only [Act.put, List.setIfInBounds_toArray, List.set_cons_zero, List.set_cons_succ, i64_w, i32_w]
          rfl
         refine pu_ 9 33 13 2047 ?_
         refine one_ (i := 11) (N := some 35) (pm_ 13 4095) rfl rfl (one_of HT_.out (by kernel_rfl)) (by decide) (fun K hK => ?_)
         refine goes_ Tryz.func92 (by kernel_rfl) rfl #[.int .i64 (wrap64 (t332 - t334)), .int .i64 a0] (by rfl) rfl rfl (by (try simp only [List.map_toArray, List.map_cons, List.map_nil]); first | done | rfl | (simp only [List.length_drop, List.length_take]; rfl)) ?_
         with_reducible refine (impl_around.calls (wrap64 (t332 - t334)) a0 t335 _ A15.out).mono ?_
         rintro e w' ⟨rfl, ⟨nd, rfl⟩⟩
         refine ⟨_, rfl, ?_⟩
         refine hK.out _ _ ⟨(blk_cell BK331.out 0).trans rfl, (blk_cell BK331.out 1).trans rfl, ((HB.out.cell (World.block_lt_of_cell? w _ hw333_0)).trans hw333_0), ((HB.out.cell (World.block_lt_of_cell? w _ hw333_1)).trans hw333_1)⟩ (fun hHeld => ?_)
         clear hK K
         refine norm_ (a' := ?_) ?_ ?_
         rotate_left
         ·
          show Act.put _ (some 35) _ = _
          simp only [Act.put, List.setIfInBounds_toArray, List.set_cons_zero, List.set_cons_succ, i64_w, i32_w]
          rfl
         refine pu_ 12 12 13 8191 ?_
         refine done_ (done_of HT_.out (by kernel_rfl)) ?_
         try go_wp2
         go_roundg k1
         case measure => have := HK1.out; omega
         case rel => exact ⟨(ji17), (wrap64 (x16_1 + 1)), (by first | rfl | (simp; done) | (simp only [← hji17] <;> (first | rfl | simp)) | (simp [*]; done)), (rs_), H', ⟨by have := HK1.out; omega⟩, ⟨bw_⟩⟩
        ·
         rw [if_neg c13] at H
         exact absurd H (by simp)
       ·
        rw [if_neg c12] at H
        exact absurd H (by simp)
     ·
      rw [if_neg c7] at H
      exact absurd H (by simp)
    ·
     rw [if_neg c6] at H
     exact absurd H (by simp)
   ·
    rw [if_neg c5] at H
    replace c5 := decide_eq_false c5
    obtain rfl := Option.some.inj H
    go_wp2
    go_ret
    exact ⟨rt_, bw_⟩

end Go.Proofs.YtfkieckkmcibbaaGreatDoor.PFnRunnersRun
