-- Laid by a program of this session's (wip/gen/printp.sh): the functions that the law reaches, each with its walk.
import Derived.Test.YtfkieckkmcibbaaGreatDoorPFnRunnersRunx0
import Derived.Test.YtfkieckkmcibbaaGreatDoorPFnRunnersRunx2
import Derived.Test.YtfkieckkmcibbaaGreatDoorPFnRunnersRunx3
import Derived.Test.YtfkieckkmcibbaaGreatDoorPFnRunnersRunx12
import Derived.Test.YtfkieckkmcibbaaGreatDoorPFnRunnersRunx13
namespace Go.Proofs.YtfkieckkmcibbaaGreatDoor.PFnRunnersRun
open Go.RowKit Go.Proofs.YtfkieckkmcibbaaGreatDoorW.PrintWords Go.Proofs.YtfkieckkmcibbaaGreatDoorW.PrintLast Go.Proofs.YtfkieckkmcibbaaGreatDoorW.PrintMore
attribute [local go_sem] max2_int min2_int max_two min_two max_three min_three max_four min_four   -- for this text's walks alone
set_option linter.unusedVariables false
set_option linter.unusedSimpArgs false

/-! ### spec_DrawParseRunners: function 33 -/
def spec_DrawParseRunners.j0 : Nat → ByteArray → List Int → Int → Int → Option (ByteArray)
  | 0, _, _, _, _ => none
  | k + 1, x6, x535000, x535001, x535002 => (spec_l1Cur_one.f x535000 x535001 x535002 3).bind fun bt543 => (if bt543.1 = true then ((spec_l1Cur_spoilt.f k x535000 bt543.2.1 bt543.2.2 x6 (⟨#[48, 49, 50, 51, 62, 44, 120]⟩ : ByteArray)).bind fun bt546 => (some bt546.1)) else (some x6))
def spec_DrawParseRunners.f (k : Nat) (l0 : List Int) : Option (ByteArray) := (spec_l1Cur_runners.f k l0 0 0).bind fun bt535 => ((spec_trList.f k 1000 bt535.2.1).bind fun t541 => (if t541 = true then ((spec_trText.f k bt535.2.1).bind fun t542 => (spec_DrawParseRunners.j0 k t542 l0 bt535.2.2.1 bt535.2.2.2)) else (spec_DrawParseRunners.j0 k (⟨#[48, 62, 51, 44, 48, 62, 49]⟩ : ByteArray) l0 bt535.2.2.1 bt535.2.2.2)))


set_option maxHeartbeats 8000000 in
set_option maxRecDepth 100000 in
theorem spec_DrawParseRunners.calls (k : Nat) (A0 : Option Addr) (c0 : Nat) (l0 : List Int) (r : ByteArray) (w : World) (hr0 : Kd.C (Kd.int .u8) w A0 l0.length l0) (hc0 : l0.length ≤ c0) (h : spec_DrawParseRunners.f k l0 = some r) :
  Calls Tryz.prog 33 #[.slice A0 l0.length c0] w fun e w' => e = .returned (.string r) ∧ Below w.heap.size w w' := by
 have hu60 := Tryz.underlying60
 have HR0 := A_ hr0
 have HC0 := A_ hc0
 clear hr0 hc0
 have HB := A_ (Below.refl w.heap.size w)
 have H := h
 unfold spec_DrawParseRunners.f at H
 clear h
 replace H := ob_ H
 obtain ⟨⟨t535, t536, t539, t540⟩, A2, H⟩ := H
 (try dsimp only at H)
 replace H := ob_ H
 obtain ⟨t541, A3, H⟩ := H
 (try dsimp only at H)
 have HC4 := A_ H
 clear H
 go_enter Tryz.func33, Tryz.ntmps33
 go_upto_if 16 with (first | ((with_reducible refine gate_dst (N := 9) rfl ?_); refine be_ 9 #[.slice A0 l0.length c0, .int .i64 0, .int .u64 0] 60 ?_; intro gb534 hg w5 hbox hb; have HI534 := A_ ((⟨_, _, hbox, (by rw [hg]; exact (below_size bw_) : w.heap.size ≤ gb534), HR0.out⟩ : IsS60 w _ gb534 l0 0 0)); have GW534 := A_ (bz_ (w := w) hg); have GE534 := A_ (bz_ (w := w) hg); replace HB := A_ (below_step bw_ hb); clear hb hbox hg) | ((with_reducible refine gate_callee (f := 40) rfl ?_); refine gl_ (some 12) Tryz.func40 #[.pointer (some ⟨gb534, 0, none⟩)] ?_; (with_reducible refine (spec_l1Cur_runners.calls k gb534 l0 0 0 t535 t536 t539 t540 w _ ?side1 ?side2 A2.out).mono ?_); (case side1 => repeat (first | (with_reducible first | exact HI534.out | apply IsS60.alloc | apply IsS60.drewN | apply IsS60.drew | apply IsS60.set_1 | apply IsS60.set_2) | exact HI534.out)); (case side2 => repeat (first | (with_reducible first | exact HB.out | apply below_alloc | apply pw_below_drewN | apply below_drew1 | refine below_set ?_ (IsS60.ge HI534.out)) | exact HB.out)); rintro e w6 ⟨v537, rfl, ho0, hi, hb, hk⟩; refine ⟨_, rfl, ?_⟩; have HO538 := A_ (Kd.R_lower ho0 (below_size (by repeat (first | (with_reducible first | exact HB.out | apply below_alloc | apply pw_below_drewN | apply below_drew1 | refine below_set ?_ (IsS60.ge HI534.out)) | exact HB.out)))); replace HB := A_ (hb); replace HI534 := A_ (hi); (try clear hb hk hi); (try clear ho0); obtain ⟨Ao7, co7, eo7⟩ := Kd.R_slice HO538.out; subst eo7) | ((with_reducible refine gate_callee (f := 48) rfl ?_); refine gl_ (some 16) Tryz.func48 #[.int .i64 1000, .slice Ao7 t536.length co7] ?_; (with_reducible refine (spec_trList.calls k 1000 _ _ t536 t541 _ ?side1 ?side2 A3.out).mono ?_); (case side1 => repeat (first | exact (Kd.R_reads' HO538.out).2.2 | (with_reducible refine Kd.C_alloc ?_ _) | (with_reducible refine Kd.C_drewN ?_ _) | (with_reducible refine Kd.C_drew ?_))); (case side2 => exact (Kd.R_reads' HO538.out).2.1); rintro e w8 ⟨rfl, hb⟩; refine ⟨_, rfl, ?_⟩; have n0_ := A_ (Kd.R_below (by (with_reducible repeat (first | apply Kd.R_alloc | apply Kd.R_drewN | apply Kd.R_drew)); exact HO538.out) hb); have n1_ := A_ (IsS60.below (by repeat (first | (with_reducible first | exact HI534.out | apply IsS60.alloc | apply IsS60.drewN | apply IsS60.drew | apply IsS60.set_1 | apply IsS60.set_2) | exact HI534.out)) hb); have n2_ := A_ (below_step (by repeat (first | (with_reducible first | exact HB.out | apply below_alloc | apply pw_below_drewN | apply below_drew1 | refine below_set ?_ (IsS60.ge HI534.out)) | exact HB.out)) hb); clear HO538; clear HI534; clear HB; have HO538 := n0_; have HI534 := n1_; have HB := n2_; clear n0_ n1_ n2_; (try clear hb)))
 (try simp only [Act.put, List.setIfInBounds_toArray, List.set_cons_zero, List.set_cons_succ])
 go_cut [6] (fun v6 wc => ∃ (kq : Nat) (x6_3 : ByteArray), v6 = .string x6_3 ∧ Aside0 (spec_DrawParseRunners.j0 kq x6_3 l0 t539 t540 = some r) ∧ Aside0 (kq ≤ k) ∧ Aside0 (IsS60 w wc gb534 l0 t539 t540) ∧ Aside0 (Below w.heap.size w wc))
 case first =>
  have H := HC4.out
  clear HC4
  by_cases c9 : t541 = true
  ·
   subst c9
   rw [if_pos rfl] at H
   replace H := ob_ H
   obtain ⟨t542, A10, H⟩ := H
   (try dsimp only at H)
   have H' := A_ H
   clear H
   go_wp2_with (first | ((with_reducible refine gate_callee (f := 73) rfl ?_); refine gl_ (some 18) Tryz.func73 #[.slice Ao7 t536.length co7] ?_; (with_reducible refine (spec_trText.calls k _ _ t536 t542 _ ?side1 ?side2 A10.out).mono ?_); (case side1 => repeat (first | exact (Kd.R_reads' HO538.out).2.2 | (with_reducible refine Kd.C_alloc ?_ _) | (with_reducible refine Kd.C_drewN ?_ _) | (with_reducible refine Kd.C_drew ?_))); (case side2 => exact (Kd.R_reads' HO538.out).2.1); rintro e w11 ⟨rfl, hb⟩; refine ⟨_, rfl, ?_⟩; have n0_ := A_ (Kd.R_below (by (with_reducible repeat (first | apply Kd.R_alloc | apply Kd.R_drewN | apply Kd.R_drew)); exact HO538.out) hb); have n1_ := A_ (IsS60.below (by repeat (first | (with_reducible first | exact HI534.out | apply IsS60.alloc | apply IsS60.drewN | apply IsS60.drew | apply IsS60.set_1 | apply IsS60.set_2) | exact HI534.out)) hb); have n2_ := A_ (below_step (by repeat (first | (with_reducible first | exact HB.out | apply below_alloc | apply pw_below_drewN | apply below_drew1 | refine below_set ?_ (IsS60.ge HI534.out)) | exact HB.out)) hb); clear HO538; clear HI534; clear HB; have HO538 := n0_; have HI534 := n1_; have HB := n2_; clear n0_ n1_ n2_; (try clear hb)))
   go_meet
   case rel => exact ⟨_, (t542), (rs_), H', ⟨by first | omega | exact Nat.le_refl _⟩, ⟨by repeat (first | (with_reducible first | exact HI534.out | apply IsS60.alloc | apply IsS60.drewN | apply IsS60.drew | apply IsS60.set_1 | apply IsS60.set_2) | exact HI534.out)⟩, ⟨by repeat (first | (with_reducible first | exact HB.out | apply below_alloc | apply pw_below_drewN | apply below_drew1 | refine below_set ?_ (IsS60.ge HI534.out)) | exact HB.out)⟩⟩
  ·
   replace c9 := Bool.eq_false_iff.mpr c9
   subst c9
   rw [if_neg (show ¬ (false = true) by decide)] at H
   have H' := A_ H
   clear H
   go_wp2
   go_meet
   case rel => exact ⟨_, ((⟨#[48, 62, 51, 44, 48, 62, 49]⟩ : ByteArray)), (rs_), H', ⟨by first | omega | exact Nat.le_refl _⟩, ⟨by repeat (first | (with_reducible first | exact HI534.out | apply IsS60.alloc | apply IsS60.drewN | apply IsS60.drew | apply IsS60.set_1 | apply IsS60.set_2) | exact HI534.out)⟩, ⟨by repeat (first | (with_reducible first | exact HB.out | apply below_alloc | apply pw_below_drewN | apply below_drew1 | refine below_set ?_ (IsS60.ge HI534.out)) | exact HB.out)⟩⟩
 case rest =>
  clear HC4
  try clear p2
  try clear c3
  try clear c4
  try clear c7
  try clear c9
  obtain ⟨kq, x6_3, rfl, HA, HJ3, HI534, HB⟩ := hcut
  cases kq with
    | zero => exact absurd HA.out (by simp [spec_DrawParseRunners.j0])
    | succ kj3 =>
   have H := HA.out
   clear HA
   simp only [spec_DrawParseRunners.j0] at H
   replace H := ob_ H
   obtain ⟨⟨t543, t544, t545⟩, A12, H⟩ := H
   (try dsimp only at H)
   by_cases c13 : t543 = true
   ·
    subst c13
    rw [if_pos rfl] at H
    replace H := Option.bind_eq_some_iff.mp H
    obtain ⟨⟨t546, t547, t548⟩, A140, H⟩ := H
    replace H : (some t546) = some r := H
    have A14 := A_ A140
    clear A140
    obtain rfl := Option.some.inj H
    go_wp2_with (first | ((with_reducible refine gate_callee (f := 74) rfl ?_); refine gl_ (some 20) Tryz.func74 #[.pointer (some ⟨gb534, 0, none⟩), .int .i64 3] ?_; (with_reducible refine (spec_l1Cur_one.calls gb534 l0 t539 t540 3 true t544 t545 w _ ?side1 ?side2 A12.out).mono ?_); (case side1 => repeat (first | (with_reducible first | exact HI534.out | apply IsS60.alloc | apply IsS60.drewN | apply IsS60.drew | apply IsS60.set_1 | apply IsS60.set_2) | exact HI534.out)); (case side2 => repeat (first | (with_reducible first | exact HB.out | apply below_alloc | apply pw_below_drewN | apply below_drew1 | refine below_set ?_ (IsS60.ge HI534.out)) | exact HB.out)); rintro e w15 ⟨rfl, hi, hb, hk⟩; refine ⟨_, rfl, ?_⟩; replace HB := A_ (hb); replace HI534 := A_ (hi); (try clear hb hk hi)) | ((with_reducible refine gate_callee (f := 75) rfl ?_); refine gl_ (some 23) Tryz.func75 #[.pointer (some ⟨gb534, 0, none⟩), .string x6_3, .string (⟨#[48, 49, 50, 51, 62, 44, 120]⟩ : ByteArray)] ?_; (with_reducible refine (spec_l1Cur_spoilt.calls kj3 gb534 l0 t544 t545 x6_3 (⟨#[48, 49, 50, 51, 62, 44, 120]⟩ : ByteArray) t546 t547 t548 w _ ?side1 ?side2 A14.out).mono ?_); (case side1 => repeat (first | (with_reducible first | exact HI534.out | apply IsS60.alloc | apply IsS60.drewN | apply IsS60.drew | apply IsS60.set_1 | apply IsS60.set_2) | exact HI534.out)); (case side2 => repeat (first | (with_reducible first | exact HB.out | apply below_alloc | apply pw_below_drewN | apply below_drew1 | refine below_set ?_ (IsS60.ge HI534.out)) | exact HB.out)); rintro e w16 ⟨rfl, hi, hb, hk⟩; refine ⟨_, rfl, ?_⟩; replace HB := A_ (hb); replace HI534 := A_ (hi); (try clear hb hk hi)))
    go_ret
    exact ⟨rt_, by repeat (first | (with_reducible first | exact HB.out | apply below_alloc | apply pw_below_drewN | apply below_drew1 | refine below_set ?_ (IsS60.ge HI534.out)) | exact HB.out)⟩
   ·
    replace c13 := Bool.eq_false_iff.mpr c13
    subst c13
    rw [if_neg (show ¬ (false = true) by decide)] at H
    obtain rfl := Option.some.inj H
    go_wp2_with (first | ((with_reducible refine gate_callee (f := 74) rfl ?_); refine gl_ (some 20) Tryz.func74 #[.pointer (some ⟨gb534, 0, none⟩), .int .i64 3] ?_; (with_reducible refine (spec_l1Cur_one.calls gb534 l0 t539 t540 3 false t544 t545 w _ ?side1 ?side2 A12.out).mono ?_); (case side1 => repeat (first | (with_reducible first | exact HI534.out | apply IsS60.alloc | apply IsS60.drewN | apply IsS60.drew | apply IsS60.set_1 | apply IsS60.set_2) | exact HI534.out)); (case side2 => repeat (first | (with_reducible first | exact HB.out | apply below_alloc | apply pw_below_drewN | apply below_drew1 | refine below_set ?_ (IsS60.ge HI534.out)) | exact HB.out)); rintro e w17 ⟨rfl, hi, hb, hk⟩; refine ⟨_, rfl, ?_⟩; replace HB := A_ (hb); replace HI534 := A_ (hi); (try clear hb hk hi)))
    go_ret
    exact ⟨rt_, by repeat (first | (with_reducible first | exact HB.out | apply below_alloc | apply pw_below_drewN | apply below_drew1 | refine below_set ?_ (IsS60.ge HI534.out)) | exact HB.out)⟩


/-! ### impl_readNumber: function 101 -/
/-- what reading numbers leans on: the table of tens, the two errors, the greatest length that the search takes -/
def LaidA (w : World) : Prop := LaidT w ∧ (∃ ev, w.cell? ⟨4, 0, none⟩ = some ev ∧ (ev = .nilIface ∨ ∃ te pe, ev = .iface te pe)) ∧ (∃ ev, w.cell? ⟨5, 0, none⟩ = some ev ∧ (ev = .nilIface ∨ ∃ te pe, ev = .iface te pe)) ∧ (∃ m, w.cell? ⟨0, 0, none⟩ = some (.int .i64 m))
theorem LaidA.below {w w1 : World} (h : LaidA w) (hb : Below w.heap.size w w1) : LaidA w1 := by
 obtain ⟨h1, ⟨e1, h2, h3⟩, ⟨e2, h4, h5⟩, ⟨m, h6⟩⟩ := h
 exact ⟨h1.below hb, ⟨e1, pw_cell_below hb h2, h3⟩, ⟨e2, pw_cell_below hb h4, h5⟩, ⟨m, pw_cell_below hb h6⟩⟩
/-- the number that a text is the decimal of -/
def readN (s : ByteArray) : Int × Bool := match Go.Lib.atoiAll s.data.toList with
  | .ok v => if Go.Lib.itoa v = s.data.toList then (v, true) else (0, false)
  | _ => (0, false)
def impl_readNumber.f (a0 : ByteArray) : Option (Int × Bool) := if a0.size ≤ 281474976710656 then some (readN a0) else none
set_option maxHeartbeats 4000000 in
set_option maxRecDepth 100000 in
theorem impl_readNumber.calls (a0 : ByteArray) (r1 : Int) (r2 : Bool) (w : World) (h : impl_readNumber.f a0 = some (r1, r2)) (hL0 : LaidA w := by first | (with_reducible exact hL0) | exact LaidA.below hL0 (by repeat (first | (with_reducible first | exact HB.out | apply below_alloc | apply pw_below_drewN | apply below_drew1 | refine below_set ?_ (Nat.le_refl _) | refine below_set ?_ (Aside0.out (by assumption))) | exact HB.out | exact Below.refl _ _))) :
  Calls Tryz.prog 101 #[.string a0] w fun e w' => e = .returned (.tuple #[.int .i64 r1, .bool r2]) ∧ Below w.heap.size w w' := by
 unfold impl_readNumber.f at h
 by_cases c : a0.size ≤ 281474976710656
 case neg => rw [if_neg c] at h; cases h
 rw [if_pos c] at h
 have hr : readN a0 = (r1, r2) := Option.some.inj h
 clear h
 obtain ⟨hT, ⟨e1, h2, h3⟩, ⟨e2, h4, h5⟩, -⟩ := hL0
 unfold readN at hr
 rcases ha : Go.Lib.atoiAll a0.data.toList with v | _ | _
 ·
  rw [ha] at hr
  obtain ⟨b1, b2⟩ := Go.Lib.atoiAll_bounds ha
  have HT := A_ (fun (W : World) (hb : Below w.heap.size w W) => Tryz.strconv_Itoa v b1 b2 W (hT.below hb))
  have HA := A_ (Tryz.strconv_Atoi_ok a0 (by omega) v ha w)
  have key : (if Go.Lib.itoa v = a0.data.toList then (v, true) else (0, false)) = (r1, r2) := hr
  have es : ((⟨(Go.Lib.itoa v).toArray⟩ : ByteArray) = a0) ↔ Go.Lib.itoa v = a0.data.toList := by
   constructor
   ·
    intro e
    rw [← e]
   ·
    intro e
    rw [e]
  clear hr ha hT h2 h3 h4 h5
  by_cases z : Go.Lib.itoa v = a0.data.toList
  ·
   rw [if_pos z] at key
   obtain ⟨rfl, rfl⟩ := Prod.mk.inj key
   have z2 := es.mpr z
   clear es z key
   generalize (⟨(Go.Lib.itoa v).toArray⟩ : ByteArray) = t at *
   subst z2
   go_enter Tryz.func101, Tryz.ntmps101
   go_wp2_with (first | (go_at_call 113; refine HA.out.mono ?_; rintro e w1 ⟨rfl, hw⟩; have hb1 : Below w.heap.size w w1 := (by rcases hw with rfl | ⟨q, rfl⟩; exact Below.refl _ _; exact Go.Lib.bytesWorld_below _ _ _); have HB1 := A_ hb1; clear hw hb1) | (go_at_call 95; refine (HT.out _ (by repeat (first | exact HB1.out | apply below_alloc | apply pw_below_drewN | apply below_drew1))).mono ?_; rintro e w2 ⟨rfl, kq, os, hw2⟩; have HB2 := A_ (show Below w.heap.size w w2 from by rw [hw2]; exact below_step (by repeat (first | exact HB1.out | apply below_alloc | apply pw_below_drewN | apply below_drew1)) (Go.Lib.below_grow _ _ (Nat.le_refl _) _ _)); clear hw2))
   go_ret2
   exact ⟨rfl, by repeat (first | exact HB2.out | apply below_alloc | apply pw_below_drewN | apply below_drew1)⟩
  ·
   rw [if_neg z] at key
   obtain ⟨rfl, rfl⟩ := Prod.mk.inj key
   have z2 : ¬ ((⟨(Go.Lib.itoa v).toArray⟩ : ByteArray) = a0) := fun q => z (es.mp q)
   clear es z key
   generalize (⟨(Go.Lib.itoa v).toArray⟩ : ByteArray) = t at *
   have hz : (t.toList == a0.toList) = false := by
    rw [beq_eq_false_iff_ne]
    intro e
    rw [ByteArray.toList_eq, ByteArray.toList_eq] at e
    exact z2 (ByteArray.ext (Array.toList_inj.mp e))
   go_enter Tryz.func101, Tryz.ntmps101
   go_wp2_with (first | (go_at_call 113; refine HA.out.mono ?_; rintro e w1 ⟨rfl, hw⟩; have hb1 : Below w.heap.size w w1 := (by rcases hw with rfl | ⟨q, rfl⟩; exact Below.refl _ _; exact Go.Lib.bytesWorld_below _ _ _); have HB1 := A_ hb1; clear hw hb1) | (go_at_call 95; refine (HT.out _ (by repeat (first | exact HB1.out | apply below_alloc | apply pw_below_drewN | apply below_drew1))).mono ?_; rintro e w2 ⟨rfl, kq, os, hw2⟩; have HB2 := A_ (show Below w.heap.size w w2 from by rw [hw2]; exact below_step (by repeat (first | exact HB1.out | apply below_alloc | apply pw_below_drewN | apply below_drew1)) (Go.Lib.below_grow _ _ (Nat.le_refl _) _ _)); clear hw2))
   go_ret2
   exact ⟨rfl, by repeat (first | exact HB2.out | apply below_alloc | apply pw_below_drewN | apply below_drew1)⟩
 ·
  rw [ha] at hr
  obtain ⟨rfl, rfl⟩ := Prod.mk.inj hr
  have HA := A_ (Tryz.strconv_Atoi_syntax a0 c (fun v e => by rw [ha] at e; cases e) (fun e => by rw [ha] at e; cases e) e1 w h2 h3)
  clear hr ha hT h2 h3 h4 h5
  go_enter Tryz.func101, Tryz.ntmps101
  go_wp2_with (go_at_call 113; refine HA.out.mono ?_; rintro e w1 ⟨N, rfl, -, -, hb⟩; have HB1 := A_ hb; clear hb)
  go_ret2
  exact ⟨rfl, by repeat (first | exact HB1.out | apply below_alloc | apply pw_below_drewN | apply below_drew1)⟩
 ·
  rw [ha] at hr
  obtain ⟨rfl, rfl⟩ := Prod.mk.inj hr
  have HA := A_ (Tryz.strconv_Atoi_range a0 c ha e2 w h4 h5)
  clear hr ha hT h2 h3 h4 h5
  go_enter Tryz.func101, Tryz.ntmps101
  go_wp2_with (go_at_call 113; refine HA.out.mono ?_; rintro e w1 ⟨N, rfl, -, -, hb⟩; have HB1 := A_ hb; clear hb)
  go_ret2
  exact ⟨rfl, by repeat (first | exact HB1.out | apply below_alloc | apply pw_below_drewN | apply below_drew1)⟩


/-! ### strings_Split: function 76 -/
/-- the pieces of a text between a separator that is not empty -/
def strings_Split.f (a0 : ByteArray) (a1 : ByteArray) : Option (List (ByteArray)) := if a0.size < 4294967281 ∧ 1 ≤ a1.size then some (Go.Lib.splitB a1 0 (Go.Lib.countB a0 a1) a0) else none
theorem strings_Split.calls (a0 : ByteArray) (a1 : ByteArray) (r : List (ByteArray)) (w : World) (h : strings_Split.f a0 a1 = some r) (hL0 : LaidA w := by first | (with_reducible exact hL0) | exact LaidA.below hL0 (by repeat (first | (with_reducible first | exact HB.out | apply below_alloc | apply pw_below_drewN | apply below_drew1 | refine below_set ?_ (Nat.le_refl _) | refine below_set ?_ (Aside0.out (by assumption))) | exact HB.out | exact Below.refl _ _))) :
  Calls Tryz.prog 76 #[.string a0, .string a1] w fun e w' => ∃ v0_ : Value, e = .returned (v0_) ∧ Kd.R Kd.string 9 w' w.heap.size (fun _ => True) v0_ r ∧ Below w.heap.size w w' := by
 unfold strings_Split.f at h
 by_cases c : a0.size < 4294967281 ∧ 1 ≤ a1.size
 case neg => rw [if_neg c] at h; cases h
 rw [if_pos c] at h
 obtain rfl := Option.some.inj h
 obtain ⟨-, -, -, ⟨m, hm⟩⟩ := hL0
 refine (Tryz.strings_Split a0 a1 m w c.1 hm c.2).mono ?_
 rintro e w' ⟨rfl, rfl⟩
 have hl := Go.Lib.splitB_all a1 c.2 0 _ a0 rfl
 generalize Go.Lib.splitB a1 0 (Go.Lib.countB a0 a1) a0 = l at *
 have hm2 : l.length ≤ maxLen := by have := Go.Lib.countB_le a1 c.2 _ a0 (Nat.le_refl _); rw [hl]; show _ ≤ 9223372036854775807; omega
 rw [← hl]
 refine ⟨_, rfl, ?_, below_alloc (Below.refl _ _) _⟩
 have ho := World.ownsRow_lit (base := w.heap.size) (e := 9) (size := 1) w (l.map Value.string).toArray l.length (Nat.le_refl _) hm2 (by simp)
 rw [List.toList_toArray] at ho
 exact Kd.R_of_own ho (fun _ _ => trivial)

/-! ### impl_readNumbers: function 77 -/
def impl_readNumbers.l0 : Nat → List Int → List ByteArray → Int → Int → Option (List Int × Bool)
  | 0, _, _, _, _ => none
  | k + 1, x6, x13, x14, x15 => if x15 < x14 then (if 0 ≤ x15 then (if x15 < (x13.length : Int) then ((impl_readNumber.f (rdOf ByteArray.empty x13 x15)).bind fun bt553 => (if bt553.2 = true then (if x6.length < 17592186044416 then (impl_readNumbers.l0 k (x6 ++ [bt553.1]) x13 x14 (wrap64 (x15 + 1))) else (none)) else (some (([] : List Int), false)))) else (none)) else (none)) else (some (x6, true))
def impl_readNumbers.f (k : Nat) (a0 : ByteArray) (a1 : ByteArray) : Option (List Int × Bool) := (strings_Split.f a0 a1).bind fun t549 => (impl_readNumbers.l0 k ([] : List Int) t549 (t549.length : Int) 0)


set_option maxHeartbeats 8000000 in
set_option maxRecDepth 100000 in
theorem impl_readNumbers.calls (k : Nat) (a0 : ByteArray) (a1 : ByteArray) (r1 : List Int) (r2 : Bool) (w : World) (h : impl_readNumbers.f k a0 a1 = some (r1, r2)) (hL0 : LaidA w := by first | (with_reducible exact hL0) | exact LaidA.below hL0 (by repeat (first | (with_reducible first | exact HB.out | apply below_alloc | apply pw_below_drewN | apply below_drew1 | refine below_set ?_ (Nat.le_refl _) | refine below_set ?_ (Aside0.out (by assumption))) | exact HB.out | exact Below.refl _ _))) :
  Calls Tryz.prog 77 #[.string a0, .string a1] w fun e w' => ∃ v0_ : Value, e = .returned (.tuple #[v0_, .bool r2]) ∧ Kd.R (Kd.int .i64) 3 w' w.heap.size (fun _ => True) v0_ r1 ∧ Below w.heap.size w w' := by
 have HB := A_ (Below.refl w.heap.size w)
 have H := h
 unfold impl_readNumbers.f at H
 clear h
 replace H := ob_ H
 obtain ⟨t549, A3, H⟩ := H
 (try dsimp only at H)
 have H' := A_ H
 clear H
 go_enter Tryz.func77, Tryz.ntmps77
 go_wp2_with (first | ((with_reducible refine gate_callee (f := 76) rfl ?_); refine gl_ (some 13) Tryz.func76 #[.string a0, .string a1] ?_; (with_reducible refine (strings_Split.calls a0 a1 t549 _ A3.out).mono ?_); rintro e w4 ⟨v550, rfl, ho0, hb⟩; refine ⟨_, rfl, ?_⟩; have HO551 := A_ (Kd.R_lower ho0 (below_size bw_)); replace HB := A_ (below_step bw_ hb); (try clear hb); (try clear ho0); obtain ⟨Ao5, co5, eo5⟩ := Kd.R_slice HO551.out; subst eo5))
 go_loopg [6, 15] k (fun kq v6 v15 w' => ∃ (x6_1 : List Int) (x15_1 : Int), v15 = .int .i64 x15_1 ∧ Aside0 (impl_readNumbers.l0 kq x6_1 t549 (t549.length : Int) x15_1 = some (r1, r2)) ∧ Aside0 (kq ≤ k) ∧ Aside0 (Kd.R (Kd.int .i64) 3 w' w.heap.size (fun _ => True) v6 x6_1) ∧ Aside0 (Kd.R Kd.string 9 w' w.heap.size (fun _ => True) (.slice Ao5 t549.length co5) t549) ∧ Aside0 (Below w.heap.size w w'))
 case atStart => exact ⟨(([] : List Int)), (0), (rs_), H', ⟨Nat.le_refl _⟩, ⟨by first | exact Kd.R_nil _ _ _ _ _ | exact Kd.N_nil _ _ _ _ _ | exact Kd.V_nil _ _ _ _ _ | exact Kd.Q_nil _ _ _ _ _ | exact Kd.S_nil _ _ _ _ _⟩, ⟨by (with_reducible repeat (first | apply Kd.R_alloc | apply Kd.R_drewN | apply Kd.R_drew)); exact HO551.out⟩, ⟨bw_⟩⟩
 case round =>
  clear H'
  try clear p2
  obtain ⟨x6_1, x15_1, rfl, HA, HK1, HO_6, HO_13, HB⟩ := hrel
  cases gk with
    | zero => exact absurd HA.out (by simp [impl_readNumbers.l0])
    | succ k1 =>
   have H := HA.out
   clear HA
   simp only [impl_readNumbers.l0] at H
   by_cases c6 : x15_1 < (t549.length : Int)
   ·
    rw [if_pos c6] at H
    replace c6 := decide_eq_true c6
    by_cases c7 : 0 ≤ x15_1
    ·
     rw [if_pos c7] at H
     replace c7 := decide_eq_true c7
     by_cases c8 : x15_1 < (t549.length : Int)
     ·
      rw [if_pos c8] at H
      replace c8 := decide_eq_true c8
      replace H := ob_ H
      obtain ⟨⟨t553, t554⟩, A9, H⟩ := H
      (try dsimp only at H)
      by_cases c10 : t554 = true
      ·
       subst c10
       rw [if_pos rfl] at H
       by_cases c11 : x6_1.length < 17592186044416
       ·
        rw [if_pos c11] at H
        have LMc11 := A_ c11
        clear c11
        obtain ⟨y555, hy555⟩ : ∃ y_ : List Int, y_ = (x6_1 ++ [t553]) := ⟨_, rfl⟩
        replace H : (impl_readNumbers.l0 k1 y555 t549 (t549.length : Int) (wrap64 (x15_1 + 1))) = some (r1, r2) := by first | (rw [hy555]; with_reducible exact H) | (have H2_ := (Option.bind_some _ _).symm.trans H; rw [hy555]; with_reducible exact H2_) | (have H2_ := (Option.bind_some _ _).symm.trans H; with_reducible exact H2_) | with_reducible exact H | (rw [hy555]; exact H) | exact H
        have Ny555 := A_ hy555
        clear hy555
        have H' := A_ H
        clear H
        have p552 : 0 ≤ (x15_1 : Int) := of_decide_eq_true (by first | (with_reducible assumption) | assumption)
        have q552 : x15_1 < (t549.length : Int) := of_decide_eq_true (by first | (with_reducible assumption) | assumption)
        obtain ⟨ad552, e552, hx552_0⟩ := Kd.at_string (Kd.R_reads' HO_13.out).2.2 x15_1 p552 q552
        cases e552
        replace p552 := eq_true p552
        replace q552 := eq_true q552
        go_wp2_with (first | ((with_reducible refine gate_callee (f := 101) rfl ?_); refine gl_ (some 21) Tryz.func101 #[.string (rdOf ByteArray.empty t549 x15_1)] ?_; (with_reducible refine (impl_readNumber.calls (rdOf ByteArray.empty t549 x15_1) t553 true _ A9.out).mono ?_); rintro e w12 ⟨rfl, hb⟩; refine ⟨_, rfl, ?_⟩; replace HB := A_ (below_step bw_ hb); replace HO_6 := A_ (Kd.R_below (by (with_reducible repeat (first | apply Kd.R_alloc | apply Kd.R_drewN | apply Kd.R_drew)); exact HO_6.out) hb); replace HO_13 := A_ (Kd.R_below (by (with_reducible repeat (first | apply Kd.R_alloc | apply Kd.R_drewN | apply Kd.R_drew)); exact HO_13.out) hb); (try clear hb)) | ((with_reducible refine gate_builtin (b := .append) (xs := #[.tmp 26, .tmp 28]) rfl ?_); at_builtin; refine Kd.R_append (Kd.int .i64) (w0 := w) w.heap.size rfl (.tmp 26) (.tmp 28) 27 3 (.int .i64 0) 8 rfl Tryz.underlying27 info3 rfl (by decide) (by omega) u6 x6_1 t553 [.int .i64 t553] (fun _ => True) (fun _ => False) rfl rfl ?aP (fun _ hk => hk.elim) ?aF ?aO ?aB ?aS ?aL ?_; (case aP => exact rfl); (case aB => exact bw_); (case aF => exact (fun _ _ => trivial)); (case aO => exact (by (with_reducible repeat (first | apply Kd.R_alloc | apply Kd.R_drewN | apply Kd.R_drew)); exact HO_6.out)); (case aS => exact (below_size bw_)); (case aL => have := LMc11.out; omega); intro v556 w13 ho hb hg hat; rw [← Ny555.out] at ho; have HO557 := A_ (ho); replace HO_13 := A_ (Kd.R_over' (by (with_reducible repeat (first | apply Kd.R_alloc | apply Kd.R_drewN | apply Kd.R_drew)); exact HO_13.out) (Kd.R_typed (by (with_reducible repeat (first | apply Kd.R_alloc | apply Kd.R_drewN | apply Kd.R_drew)); exact HO_6.out)) (by decide) hg); replace HB := A_ (hb); clear HO_6; clear ho hb hg hat))
        go_roundg k1
        case measure => have := HK1.out; omega
        case rel => exact ⟨(y555), (wrap64 (x15_1 + 1)), (rs_), H', ⟨by have := HK1.out; omega⟩, ⟨by (with_reducible repeat (first | apply Kd.R_alloc | apply Kd.R_drewN | apply Kd.R_drew)); exact HO557.out⟩, ⟨by (with_reducible repeat (first | apply Kd.R_alloc | apply Kd.R_drewN | apply Kd.R_drew)); exact HO_13.out⟩, ⟨bw_⟩⟩
       ·
        rw [if_neg c11] at H
        exact absurd H (by simp)
      ·
       replace c10 := Bool.eq_false_iff.mpr c10
       subst c10
       rw [if_neg (show ¬ (false = true) by decide)] at H
       simp only [Option.some.injEq, Prod.mk.injEq] at H
       obtain ⟨rfl, rfl⟩ := H
       have p552 : 0 ≤ (x15_1 : Int) := of_decide_eq_true (by first | (with_reducible assumption) | assumption)
       have q552 : x15_1 < (t549.length : Int) := of_decide_eq_true (by first | (with_reducible assumption) | assumption)
       obtain ⟨ad552, e552, hx552_0⟩ := Kd.at_string (Kd.R_reads' HO_13.out).2.2 x15_1 p552 q552
       cases e552
       replace p552 := eq_true p552
       replace q552 := eq_true q552
       go_wp2_with (first | ((with_reducible refine gate_callee (f := 101) rfl ?_); refine gl_ (some 21) Tryz.func101 #[.string (rdOf ByteArray.empty t549 x15_1)] ?_; (with_reducible refine (impl_readNumber.calls (rdOf ByteArray.empty t549 x15_1) t553 false _ A9.out).mono ?_); rintro e w14 ⟨rfl, hb⟩; refine ⟨_, rfl, ?_⟩; replace HB := A_ (below_step bw_ hb); replace HO_6 := A_ (Kd.R_below (by (with_reducible repeat (first | apply Kd.R_alloc | apply Kd.R_drewN | apply Kd.R_drew)); exact HO_6.out) hb); replace HO_13 := A_ (Kd.R_below (by (with_reducible repeat (first | apply Kd.R_alloc | apply Kd.R_drewN | apply Kd.R_drew)); exact HO_13.out) hb); (try clear hb)))
       go_ret2
       exact ⟨_, rt_, by first | exact Kd.R_nil _ _ _ _ _ | exact Kd.N_nil _ _ _ _ _ | exact Kd.V_nil _ _ _ _ _ | exact Kd.Q_nil _ _ _ _ _ | exact Kd.S_nil _ _ _ _ _, bw_⟩
     ·
      rw [if_neg c8] at H
      exact absurd H (by simp)
    ·
     rw [if_neg c7] at H
     exact absurd H (by simp)
   ·
    rw [if_neg c6] at H
    replace c6 := decide_eq_false c6
    simp only [Option.some.injEq, Prod.mk.injEq] at H
    obtain ⟨rfl, rfl⟩ := H
    go_wp2
    go_ret2
    exact ⟨_, rt_, by (with_reducible repeat (first | apply Kd.R_alloc | apply Kd.R_drewN | apply Kd.R_drew)); exact HO_6.out, bw_⟩

/-! ### impl_ParseRunners: function 34 -/
def impl_ParseRunners.l0 : Nat → List (S35) → List ByteArray → Int → Int → Option ((List (S35)) × Bool)
  | 0, _, _, _, _ => none
  | k + 1, x4, x10, x11, x12 => if x12 < x11 then (if 0 ≤ x12 then (if x12 < (x10.length : Int) then ((impl_readNumbers.f k (rdOf ByteArray.empty x10 x12) (⟨#[62]⟩ : ByteArray)).bind fun bt562 => (if bt562.2 = true then (if (bt562.1.length : Int) = 2 then (if 0 < (bt562.1.length : Int) then (if 1 < (bt562.1.length : Int) then (if x4.length < 8796093022208 then (impl_ParseRunners.l0 k (x4 ++ [(⟨rd bt562.1 0, rd bt562.1 1⟩ : S35)]) x10 x11 (wrap64 (x12 + 1))) else (none)) else (none)) else (none)) else (some (([] : List (S35)), false))) else (some (([] : List (S35)), false)))) else (none)) else (none)) else ((impl_AreRunners.f 1000 x4).bind fun t571 => (if t571 = true then (some (x4, true)) else (some (([] : List (S35)), false))))
def impl_ParseRunners.f (k : Nat) (a0 : ByteArray) : Option ((List (S35)) × Bool) := (strings_Split.f a0 (⟨#[44]⟩ : ByteArray)).bind fun t558 => (impl_ParseRunners.l0 k ([] : List (S35)) t558 (t558.length : Int) 0)


def impl_ParseRunners.T8 : Bool × List (List Nat × List Nat) := (true, [([], []), ([], []), ([1], [1]), ([2], [2]), ([], []), ([4], [4]), ([5], [5]), ([3, 6], [3, 6]), ([7], [7]), ([0, 8], [0, 8]), ([9, 9, 0, 1, 2, 3, 4, 5, 6, 7, 8, 9], [0, 9])])
def impl_ParseRunners.B8 : List Nat := [0, 0, 2, 6, 0, 16, 48, 126, 254, 511, 1023]
theorem impl_ParseRunners.tab8 : rtab .any (opsOf Tryz.f34 8) = impl_ParseRunners.T8 := by kernel_rfl
theorem impl_ParseRunners.bits8 : waitsOk impl_ParseRunners.T8.2 impl_ParseRunners.B8 = true := by kernel_rfl
set_option maxHeartbeats 8000000 in
set_option maxRecDepth 100000 in
theorem impl_ParseRunners.calls (k : Nat) (a0 : ByteArray) (r1 : List (S35)) (r2 : Bool) (w : World) (h : impl_ParseRunners.f k a0 = some (r1, r2)) (hL0 : LaidA w := by first | (with_reducible exact hL0) | exact LaidA.below hL0 (by repeat (first | (with_reducible first | exact HB.out | apply below_alloc | apply pw_below_drewN | apply below_drew1 | refine below_set ?_ (Nat.le_refl _) | refine below_set ?_ (Aside0.out (by assumption))) | exact HB.out | exact Below.refl _ _))) :
  Calls Tryz.prog 34 #[.string a0] w fun e w' => ∃ v0_ : Value, e = .returned (.tuple #[v0_, .bool r2]) ∧ Kd.R k35 35 w' w.heap.size (fun _ => True) v0_ r1 ∧ Below w.heap.size w w' := by
 have hu35 := Tryz.underlying35
 have HB := A_ (Below.refl w.heap.size w)
 have H := h
 unfold impl_ParseRunners.f at H
 clear h
 replace H := ob_ H
 obtain ⟨t558, A2, H⟩ := H
 (try dsimp only at H)
 have H' := A_ H
 clear H
 go_enter Tryz.func34, Tryz.ntmps34
 go_wp2_with (first | ((with_reducible refine gate_callee (f := 76) rfl ?_); refine gl_ (some 10) Tryz.func76 #[.string a0, .string (⟨#[44]⟩ : ByteArray)] ?_; (with_reducible refine (strings_Split.calls a0 (⟨#[44]⟩ : ByteArray) t558 _ A2.out).mono ?_); rintro e w3 ⟨v559, rfl, ho0, hb⟩; refine ⟨_, rfl, ?_⟩; have HO560 := A_ (Kd.R_lower ho0 (below_size bw_)); replace HB := A_ (below_step bw_ hb); (try clear hb); (try clear ho0); obtain ⟨Ao4, co4, eo4⟩ := Kd.R_slice HO560.out; subst eo4))
 go_loopg [4, 12] k (fun kq v4 v12 w' => ∃ (x4_1 : List (S35)) (x12_1 : Int), v12 = .int .i64 x12_1 ∧ Aside0 (impl_ParseRunners.l0 kq x4_1 t558 (t558.length : Int) x12_1 = some (r1, r2)) ∧ Aside0 (kq ≤ k) ∧ Aside0 (Kd.R k35 35 w' w.heap.size (fun _ => True) v4 x4_1) ∧ Aside0 (Kd.R Kd.string 9 w' w.heap.size (fun _ => True) (.slice Ao4 t558.length co4) t558) ∧ Aside0 (Below w.heap.size w w'))
 case atStart => exact ⟨(([] : List (S35))), (0), (rs_), H', ⟨Nat.le_refl _⟩, ⟨by first | exact Kd.R_nil _ _ _ _ _ | exact Kd.N_nil _ _ _ _ _ | exact Kd.V_nil _ _ _ _ _ | exact Kd.Q_nil _ _ _ _ _ | exact Kd.S_nil _ _ _ _ _⟩, ⟨by (with_reducible repeat (first | apply Kd.R_alloc | apply Kd.R_drewN | apply Kd.R_drew)); exact HO560.out⟩, ⟨bw_⟩⟩
 case round =>
  clear H'
  try clear p2
  try clear c3
  obtain ⟨x4_1, x12_1, rfl, HA, HK1, HO_4, HO_10, HB⟩ := hrel
  cases gk with
    | zero => exact absurd HA.out (by simp [impl_ParseRunners.l0])
    | succ k1 =>
   have H := HA.out
   clear HA
   simp only [impl_ParseRunners.l0] at H
   by_cases c5 : x12_1 < (t558.length : Int)
   ·
    rw [if_pos c5] at H
    replace c5 := decide_eq_true c5
    by_cases c6 : 0 ≤ x12_1
    ·
     rw [if_pos c6] at H
     replace c6 := decide_eq_true c6
     by_cases c7 : x12_1 < (t558.length : Int)
     ·
      rw [if_pos c7] at H
      replace c7 := decide_eq_true c7
      replace H := ob_ H
      obtain ⟨⟨t562, t563⟩, A8, H⟩ := H
      (try dsimp only at H)
      by_cases c9 : t563 = true
      ·
       subst c9
       rw [if_pos rfl] at H
       by_cases c10 : (t562.length : Int) = 2
       ·
        rw [if_pos c10] at H
        have c10b0 : ((t562.length : Int) == 2) = true := beq_iff_eq.mpr c10
        have c10b1 : ((t562.length : Int) != 2) = false := bne_eq_false_iff_eq.mpr c10
        clear c10
        by_cases c11 : 0 < (t562.length : Int)
        ·
         rw [if_pos c11] at H
         have c11b0 : decide (0 < (t562.length : Int)) = true := decide_eq_true c11
         have c11b1 : decide (0 < t562.length) = true := decide_eq_true (by omega)
         clear c11
         by_cases c12 : 1 < (t562.length : Int)
         ·
          rw [if_pos c12] at H
          have c12b0 : decide (1 < (t562.length : Int)) = true := decide_eq_true c12
          have c12b1 : decide (1 < t562.length) = true := decide_eq_true (by omega)
          clear c12
          by_cases c13 : x4_1.length < 8796093022208
          ·
           rw [if_pos c13] at H
           have LMc13 := A_ c13
           clear c13
           obtain ⟨y568, hy568⟩ : ∃ y_ : List (S35), y_ = (x4_1 ++ [(⟨rd t562 0, rd t562 1⟩ : S35)]) := ⟨_, rfl⟩
           replace H : (impl_ParseRunners.l0 k1 y568 t558 (t558.length : Int) (wrap64 (x12_1 + 1))) = some (r1, r2) := by first | (rw [hy568]; with_reducible exact H) | (have H2_ := (Option.bind_some _ _).symm.trans H; rw [hy568]; with_reducible exact H2_) | (have H2_ := (Option.bind_some _ _).symm.trans H; with_reducible exact H2_) | with_reducible exact H | (rw [hy568]; exact H) | exact H
           have Ny568 := A_ hy568
           clear hy568
           have H' := A_ H
           clear H
           have p561 : 0 ≤ (x12_1 : Int) := of_decide_eq_true (by first | (with_reducible assumption) | assumption)
           have q561 : x12_1 < (t558.length : Int) := of_decide_eq_true (by first | (with_reducible assumption) | assumption)
           obtain ⟨ad561, e561, hx561_0⟩ := Kd.at_string (Kd.R_reads' HO_10.out).2.2 x12_1 p561 q561
           cases e561
           replace p561 := eq_true p561
           replace q561 := eq_true q561
           try go_wp2_with (first | ((with_reducible refine gate_callee (f := 77) rfl ?_); refine gl_ (some 18) Tryz.func77 #[.string (rdOf ByteArray.empty t558 x12_1), .string (⟨#[62]⟩ : ByteArray)] ?_; (with_reducible refine (impl_readNumbers.calls k1 (rdOf ByteArray.empty t558 x12_1) (⟨#[62]⟩ : ByteArray) t562 true _ A8.out).mono ?_); rintro e w14 ⟨v564, rfl, ho0, hb⟩; refine ⟨_, rfl, ?_⟩; have HO565 := A_ (Kd.R_lower ho0 (below_size bw_)); replace HB := A_ (below_step bw_ hb); replace HO_4 := A_ (Kd.R_below (by (with_reducible repeat (first | apply Kd.R_alloc | apply Kd.R_drewN | apply Kd.R_drew)); exact HO_4.out) hb); replace HO_10 := A_ (Kd.R_below (by (with_reducible repeat (first | apply Kd.R_alloc | apply Kd.R_drewN | apply Kd.R_drew)); exact HO_10.out) hb); (try clear hb); (try clear ho0); obtain ⟨Ao15, co15, eo15⟩ := Kd.R_slice HO565.out; subst eo15))
           replace HO_4 := A_ (Kd.R_drew HO_4.out)
           replace HO_10 := A_ (Kd.R_drew HO_10.out)
           replace HO565 := A_ (Kd.R_drew HO565.out)
           replace HB := A_ (below_drew1 HB.out)
           have p566 : 0 ≤ (0 : Int) := (by omega)
           have q566 : 0 < (t562.length : Int) := of_decide_eq_true (by first | (with_reducible assumption) | assumption)
           obtain ⟨ad566, e566, hx566_0⟩ := Kd.at_int (Kd.R_reads' HO565.out).2.2 0 p566 q566
           cases e566
           have qi566 : (0 < t562.length) = True := eq_true (by omega)
           (try rw [show ((0 : Int)).toNat = 0 from rfl] at hx566_0)
           (try rw [Addr.add_zero'] at hx566_0)
           replace p566 := eq_true p566
           replace q566 := eq_true q566
           have p567 : 0 ≤ (1 : Int) := (by omega)
           have q567 : 1 < (t562.length : Int) := of_decide_eq_true (by first | (with_reducible assumption) | assumption)
           obtain ⟨ad567, e567, hx567_0⟩ := Kd.at_int (Kd.R_reads' HO565.out).2.2 1 p567 q567
           obtain rfl : ad566 = ad567 := (by injection e567)
           (try simp only [show (1 : Int).toNat = 1 from rfl, Nat.reduceMul, Nat.reduceEqDiff, Go.Addr.add, ↓reduceIte] at hx567_0)
           have qi567 : (1 < t562.length) = True := eq_true (by omega)
           (try rw [show ((1 : Int)).toNat = 1 from rfl] at hx567_0)
           replace p567 := eq_true p567
           replace q567 := eq_true q567
           refine start_ (n := 11) (S := fun w' => w'.cell? ad566 = some (.int .i64 (rd t562 0)) ∧ w'.cell? ⟨ad566.block, ad566.off + 1, none⟩ = some (.int .i64 (rd t562 1))) (ds := [8, 9]) #[false, false, false, false, false, false, false, false, false, false, false] (by kernel_rfl) rfl rfl ⟨hx566_0, hx567_0⟩ (fun hHeld => ?_); refine with_tabW impl_ParseRunners.tab8 impl_ParseRunners.bits8 (fun HT_ HW_ => ?_)
           generalize w14.drew = w16 at HO_4 HO_10 HO565 HB hx566_0 hx567_0 hHeld ⊢
           refine pu_ 0 28 11 1 ?_
           refine pu_ 1 29 11 3 ?_
           refine pu_ 2 30 11 7 ?_
           refine pu_ 4 32 11 23 ?_
           refine pu_ 5 33 11 55 ?_
           refine tk_ 3 31 11 63 hHeld ?_
           refine tk_ 6 34 11 127 hHeld ?_
           refine pu_ 7 35 11 255 ?_
           refine last_ (i := 8) (N := some 36) (pm_ 11 511) rfl rfl (one_of HT_.out (by kernel_rfl)) (by decide) (fun K hK => ?_)
           refine value_ (w1 := ?_) (v := ?_) (by rfl) rfl ?_ ?_
           rotate_left 2
           ·
            go_simp
            constructor
            ·
             rfl
            ·
             rfl
           refine hK.out _ _ ?_
           clear hK K
           refine norm_ (a' := ?_) ?_ ?_
           rotate_left
           ·
            show Act.put _ (some 36) _ = _
            simp only [Act.put, List.setIfInBounds_toArray, List.set_cons_zero, List.set_cons_succ, i64_w, i32_w]
            rfl
           refine last_ (i := 9) (N := some 37) (pm_ 11 1023) rfl rfl (one_of HT_.out (by kernel_rfl)) (by decide) (fun K hK => ?_)
           refine Kd.R_append_step k35 (w0 := w) w.heap.size (by rfl) (.tmp 28) (.tmp 36) 24 35 (.agg #[(.int .i64 0), (.int .i64 0)]) 16 rfl Tryz.underlying24 info35 rfl (by decide) (by omega) u4 x4_1 (⟨rd t562 0, rd t562 1⟩ : S35) [.int .i64 (rd t562 0), .int .i64 (rd t562 1)] (fun _ => True) (fun _ => False) rfl rfl ?aP (fun _ hk => hk.elim) ?aF ?aO ?aB ?aS ?aL ?_
           (case aP => exact k35_mkM _ _ _ (⟨rd t562 0, rd t562 1⟩ : S35))
           (case aB => exact bw_)
           (case aF => exact (fun _ _ => trivial))
           (case aO => exact (by (with_reducible repeat (first | apply Kd.R_alloc | apply Kd.R_drewN | apply Kd.R_drew)); exact HO_4.out))
           (case aS => exact (below_size bw_))
           (case aL => have := LMc13.out; omega)
           intro v569 w17 ho hb hg hat
           rw [← Ny568.out] at ho
           have HO570 := A_ (ho)
           replace HO_10 := A_ (Kd.R_over' (by (with_reducible repeat (first | apply Kd.R_alloc | apply Kd.R_drewN | apply Kd.R_drew)); exact HO_10.out) (Kd.R_typed (by (with_reducible repeat (first | apply Kd.R_alloc | apply Kd.R_drewN | apply Kd.R_drew)); exact HO_4.out)) (by decide) hg)
           replace HO565 := A_ (Kd.R_over' (by (with_reducible repeat (first | apply Kd.R_alloc | apply Kd.R_drewN | apply Kd.R_drew)); exact HO565.out) (Kd.R_typed (by (with_reducible repeat (first | apply Kd.R_alloc | apply Kd.R_drewN | apply Kd.R_drew)); exact HO_4.out)) (by decide) hg)
           replace HB := A_ (hb)
           clear HO_4
           clear ho hb hg hat
           refine hK.out _ _ ?_
           clear hK K
           refine norm_ (a' := ?_) ?_ ?_
           rotate_left
           ·
            show Act.put _ (some 37) _ = _
            simp only [Act.put, List.setIfInBounds_toArray, List.set_cons_zero, List.set_cons_succ, i64_w, i32_w]
            rfl
           refine pu_ 10 4 11 2047 ?_
           refine done_ (done_of HT_.out (by kernel_rfl)) ?_
           try go_wp2
           go_roundg k1
           case measure => have := HK1.out; omega
           case rel => exact ⟨(y568), (wrap64 (x12_1 + 1)), (rs_), H', ⟨by have := HK1.out; omega⟩, ⟨by (with_reducible repeat (first | apply Kd.R_alloc | apply Kd.R_drewN | apply Kd.R_drew)); exact HO570.out⟩, ⟨by (with_reducible repeat (first | apply Kd.R_alloc | apply Kd.R_drewN | apply Kd.R_drew)); exact HO_10.out⟩, ⟨bw_⟩⟩
          ·
           rw [if_neg c13] at H
           exact absurd H (by simp)
         ·
          rw [if_neg c12] at H
          exact absurd H (by simp)
        ·
         rw [if_neg c11] at H
         exact absurd H (by simp)
       ·
        rw [if_neg c10] at H
        have c10b0 : ((t562.length : Int) == 2) = false := beq_eq_false_iff_ne.mpr c10
        have c10b1 : ((t562.length : Int) != 2) = true := bne_iff_ne.mpr c10
        simp only [Option.some.injEq, Prod.mk.injEq] at H
        obtain ⟨rfl, rfl⟩ := H
        have p561 : 0 ≤ (x12_1 : Int) := of_decide_eq_true (by first | (with_reducible assumption) | assumption)
        have q561 : x12_1 < (t558.length : Int) := of_decide_eq_true (by first | (with_reducible assumption) | assumption)
        obtain ⟨ad561, e561, hx561_0⟩ := Kd.at_string (Kd.R_reads' HO_10.out).2.2 x12_1 p561 q561
        cases e561
        replace p561 := eq_true p561
        replace q561 := eq_true q561
        go_wp2_with (first | ((with_reducible refine gate_callee (f := 77) rfl ?_); refine gl_ (some 18) Tryz.func77 #[.string (rdOf ByteArray.empty t558 x12_1), .string (⟨#[62]⟩ : ByteArray)] ?_; (with_reducible refine (impl_readNumbers.calls k1 (rdOf ByteArray.empty t558 x12_1) (⟨#[62]⟩ : ByteArray) t562 true _ A8.out).mono ?_); rintro e w18 ⟨v564, rfl, ho0, hb⟩; refine ⟨_, rfl, ?_⟩; have HO565 := A_ (Kd.R_lower ho0 (below_size bw_)); replace HB := A_ (below_step bw_ hb); replace HO_4 := A_ (Kd.R_below (by (with_reducible repeat (first | apply Kd.R_alloc | apply Kd.R_drewN | apply Kd.R_drew)); exact HO_4.out) hb); replace HO_10 := A_ (Kd.R_below (by (with_reducible repeat (first | apply Kd.R_alloc | apply Kd.R_drewN | apply Kd.R_drew)); exact HO_10.out) hb); (try clear hb); (try clear ho0); obtain ⟨Ao19, co19, eo19⟩ := Kd.R_slice HO565.out; subst eo19))
        go_ret2
        exact ⟨_, rt_, by first | exact Kd.R_nil _ _ _ _ _ | exact Kd.N_nil _ _ _ _ _ | exact Kd.V_nil _ _ _ _ _ | exact Kd.Q_nil _ _ _ _ _ | exact Kd.S_nil _ _ _ _ _, bw_⟩
      ·
       replace c9 := Bool.eq_false_iff.mpr c9
       subst c9
       rw [if_neg (show ¬ (false = true) by decide)] at H
       simp only [Option.some.injEq, Prod.mk.injEq] at H
       obtain ⟨rfl, rfl⟩ := H
       have p561 : 0 ≤ (x12_1 : Int) := of_decide_eq_true (by first | (with_reducible assumption) | assumption)
       have q561 : x12_1 < (t558.length : Int) := of_decide_eq_true (by first | (with_reducible assumption) | assumption)
       obtain ⟨ad561, e561, hx561_0⟩ := Kd.at_string (Kd.R_reads' HO_10.out).2.2 x12_1 p561 q561
       cases e561
       replace p561 := eq_true p561
       replace q561 := eq_true q561
       go_wp2_with (first | ((with_reducible refine gate_callee (f := 77) rfl ?_); refine gl_ (some 18) Tryz.func77 #[.string (rdOf ByteArray.empty t558 x12_1), .string (⟨#[62]⟩ : ByteArray)] ?_; (with_reducible refine (impl_readNumbers.calls k1 (rdOf ByteArray.empty t558 x12_1) (⟨#[62]⟩ : ByteArray) t562 false _ A8.out).mono ?_); rintro e w20 ⟨v564, rfl, ho0, hb⟩; refine ⟨_, rfl, ?_⟩; have HO565 := A_ (Kd.R_lower ho0 (below_size bw_)); replace HB := A_ (below_step bw_ hb); replace HO_4 := A_ (Kd.R_below (by (with_reducible repeat (first | apply Kd.R_alloc | apply Kd.R_drewN | apply Kd.R_drew)); exact HO_4.out) hb); replace HO_10 := A_ (Kd.R_below (by (with_reducible repeat (first | apply Kd.R_alloc | apply Kd.R_drewN | apply Kd.R_drew)); exact HO_10.out) hb); (try clear hb); (try clear ho0)))
       go_ret2
       exact ⟨_, rt_, by first | exact Kd.R_nil _ _ _ _ _ | exact Kd.N_nil _ _ _ _ _ | exact Kd.V_nil _ _ _ _ _ | exact Kd.Q_nil _ _ _ _ _ | exact Kd.S_nil _ _ _ _ _, bw_⟩
     ·
      rw [if_neg c7] at H
      exact absurd H (by simp)
    ·
     rw [if_neg c6] at H
     exact absurd H (by simp)
   ·
    rw [if_neg c5] at H
    replace c5 := decide_eq_false c5
    replace H := ob_ H
    obtain ⟨t571, A21, H⟩ := H
    (try dsimp only at H)
    by_cases c22 : t571 = true
    ·
     subst c22
     rw [if_pos rfl] at H
     simp only [Option.some.injEq, Prod.mk.injEq] at H
     obtain ⟨rfl, rfl⟩ := H
     obtain ⟨Ao23, co23, eo23⟩ := Kd.R_slice HO_4.out
     subst eo23
     go_wp2_with (first | ((with_reducible refine gate_callee (f := 42) rfl ?_); refine gl_ (some 40) Tryz.func42 #[.int .i64 1000, .slice Ao23 x4_1.length co23] ?_; (with_reducible refine (impl_AreRunners.calls 1000 _ _ x4_1 true _ ?side1 ?side2 A21.out).mono ?_); (case side1 => repeat (first | exact (Kd.R_reads' HO_4.out).2.2 | (with_reducible refine Kd.C_alloc ?_ _) | (with_reducible refine Kd.C_drewN ?_ _) | (with_reducible refine Kd.C_drew ?_))); (case side2 => exact (Kd.R_reads' HO_4.out).2.1); rintro e w24 ⟨rfl, hb⟩; refine ⟨_, rfl, ?_⟩; replace HB := A_ (below_step bw_ hb); replace HO_4 := A_ (Kd.R_below (by (with_reducible repeat (first | apply Kd.R_alloc | apply Kd.R_drewN | apply Kd.R_drew)); exact HO_4.out) hb); replace HO_10 := A_ (Kd.R_below (by (with_reducible repeat (first | apply Kd.R_alloc | apply Kd.R_drewN | apply Kd.R_drew)); exact HO_10.out) hb); (try clear hb)))
     go_ret2
     exact ⟨_, rt_, by (with_reducible repeat (first | apply Kd.R_alloc | apply Kd.R_drewN | apply Kd.R_drew)); exact HO_4.out, bw_⟩
    ·
     replace c22 := Bool.eq_false_iff.mpr c22
     subst c22
     rw [if_neg (show ¬ (false = true) by decide)] at H
     simp only [Option.some.injEq, Prod.mk.injEq] at H
     obtain ⟨rfl, rfl⟩ := H
     obtain ⟨Ao25, co25, eo25⟩ := Kd.R_slice HO_4.out
     subst eo25
     go_wp2_with (first | ((with_reducible refine gate_callee (f := 42) rfl ?_); refine gl_ (some 40) Tryz.func42 #[.int .i64 1000, .slice Ao25 x4_1.length co25] ?_; (with_reducible refine (impl_AreRunners.calls 1000 _ _ x4_1 false _ ?side1 ?side2 A21.out).mono ?_); (case side1 => repeat (first | exact (Kd.R_reads' HO_4.out).2.2 | (with_reducible refine Kd.C_alloc ?_ _) | (with_reducible refine Kd.C_drewN ?_ _) | (with_reducible refine Kd.C_drew ?_))); (case side2 => exact (Kd.R_reads' HO_4.out).2.1); rintro e w26 ⟨rfl, hb⟩; refine ⟨_, rfl, ?_⟩; replace HB := A_ (below_step bw_ hb); replace HO_4 := A_ (Kd.R_below (by (with_reducible repeat (first | apply Kd.R_alloc | apply Kd.R_drewN | apply Kd.R_drew)); exact HO_4.out) hb); replace HO_10 := A_ (Kd.R_below (by (with_reducible repeat (first | apply Kd.R_alloc | apply Kd.R_drewN | apply Kd.R_drew)); exact HO_10.out) hb); (try clear hb)))
     go_ret2
     exact ⟨_, rt_, by first | exact Kd.R_nil _ _ _ _ _ | exact Kd.N_nil _ _ _ _ _ | exact Kd.V_nil _ _ _ _ _ | exact Kd.Q_nil _ _ _ _ _ | exact Kd.S_nil _ _ _ _ _, bw_⟩

end Go.Proofs.YtfkieckkmcibbaaGreatDoor.PFnRunnersRun
