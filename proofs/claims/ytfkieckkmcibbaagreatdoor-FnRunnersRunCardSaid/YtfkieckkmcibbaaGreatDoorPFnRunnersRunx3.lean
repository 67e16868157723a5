-- Laid by a program of this session's (wip/gen/printp.sh): the functions that the law reaches, each with its walk.
import Derived.Test.YtfkieckkmcibbaaGreatDoorPFnRunnersRunx0
import Derived.Test.YtfkieckkmcibbaaGreatDoorPFnRunnersRunx2
namespace Go.Proofs.YtfkieckkmcibbaaGreatDoor.PFnRunnersRun
open Go.RowKit Go.Proofs.YtfkieckkmcibbaaGreatDoorW.PrintWords Go.Proofs.YtfkieckkmcibbaaGreatDoorW.PrintLast Go.Proofs.YtfkieckkmcibbaaGreatDoorW.PrintMore
attribute [local go_sem] max2_int min2_int max_two min_two max_three min_three max_four min_four   -- for this text's walks alone
set_option linter.unusedVariables false
set_option linter.unusedSimpArgs false

/-! ### impl_isRunner: function 86 -/
def impl_isRunner.f (a0 : Int) (a1_0 : Int) (a1_1 : Int) : Option (Bool) := (impl_within.f a1_0 0 (wrap64 (a0 - 1))).bind fun t196 => (if t196 = true then ((impl_within.f a1_1 1 100).bind fun t197 => (some t197)) else (some false))
set_option maxHeartbeats 8000000 in
set_option maxRecDepth 100000 in
theorem impl_isRunner.calls (a0 : Int) (a1_0 : Int) (a1_1 : Int) (r : Bool) (w : World) (h : impl_isRunner.f a0 a1_0 a1_1 = some r) :
  Calls Tryz.prog 86 #[.int .i64 a0, .agg #[.int .i64 a1_0, .int .i64 a1_1]] w fun e w' => e = .returned (.bool r) ∧ Below w.heap.size w w' := by
 have hu35 := Tryz.underlying35
 have HB := A_ (Below.refl w.heap.size w)
 have H := h
 unfold impl_isRunner.f at H
 clear h
 replace H := ob_ H
 obtain ⟨t196, A3, H⟩ := H
 (try dsimp only at H)
 by_cases c4 : t196 = true
 ·
  subst c4
  rw [if_pos rfl] at H
  replace H := Option.bind_eq_some_iff.mp H
  obtain ⟨t197, A50, H⟩ := H
  replace H : (some t197) = some r := H
  have A5 := A_ A50
  clear A50
  obtain rfl := Option.some.inj H
  go_enter Tryz.func86, Tryz.ntmps86
  go_wp2_with (first | ((with_reducible refine gate_dst (N := 3) rfl ?_); refine be_ 3 #[.int .i64 a1_0, .int .i64 a1_1] 35 ?_; intro gb195 hg w6 hbox hb; have BK195 := A_ hbox; have GW195 := A_ (bz_ (w := w) hg); have GE195 := A_ (bz_ (w := w) hg); replace HB := A_ (below_step bw_ hb); clear hb hbox hg; have hcz7_0 := hz_ BK195.out 0 (.int .i64 a1_0); have hcz7_1 := hz_ BK195.out 1 (.int .i64 a1_1); have hfz7_0 := blk_frozen BK195.out 0; have hfz7_1 := blk_frozen BK195.out 1) | ((with_reducible refine gate_callee (f := 83) rfl ?_); refine gl_ (some 9) Tryz.func83 #[.int .i64 a1_0, .int .i64 0, .int .i64 (wrap64 (a0 - 1))] ?_; (with_reducible refine (impl_within.calls a1_0 0 (wrap64 (a0 - 1)) true _ A3.out).mono ?_); rintro e w' ⟨rfl, ⟨nd, rfl⟩⟩; refine ⟨_, rfl, ?_⟩) | (go_at_call 83; (with_reducible refine (impl_within.calls a1_1 1 100 t197 _ A5.out).mono ?_); rintro e w' ⟨rfl, ⟨nd, rfl⟩⟩))
  go_ret
  exact ⟨rt_, bw_⟩
 ·
  replace c4 := Bool.eq_false_iff.mpr c4
  subst c4
  rw [if_neg (show ¬ (false = true) by decide)] at H
  obtain rfl := Option.some.inj H
  go_enter Tryz.func86, Tryz.ntmps86
  go_wp2_with (first | ((with_reducible refine gate_dst (N := 3) rfl ?_); refine be_ 3 #[.int .i64 a1_0, .int .i64 a1_1] 35 ?_; intro gb195 hg w8 hbox hb; have BK195 := A_ hbox; have GW195 := A_ (bz_ (w := w) hg); have GE195 := A_ (bz_ (w := w) hg); replace HB := A_ (below_step bw_ hb); clear hb hbox hg; have hcz9_0 := hz_ BK195.out 0 (.int .i64 a1_0); have hcz9_1 := hz_ BK195.out 1 (.int .i64 a1_1); have hfz9_0 := blk_frozen BK195.out 0; have hfz9_1 := blk_frozen BK195.out 1) | ((with_reducible refine gate_callee (f := 83) rfl ?_); refine gl_ (some 9) Tryz.func83 #[.int .i64 a1_0, .int .i64 0, .int .i64 (wrap64 (a0 - 1))] ?_; (with_reducible refine (impl_within.calls a1_0 0 (wrap64 (a0 - 1)) false _ A3.out).mono ?_); rintro e w' ⟨rfl, ⟨nd, rfl⟩⟩; refine ⟨_, rfl, ?_⟩))
  go_ret
  exact ⟨rt_, bw_⟩


/-! ### impl_AreRunners: function 42 -/
/-- where the first element lies of which p holds, else -1 -/
def idxOf (p : S35 → Bool) (l : List S35) : Int := if l.any p then (l.findIdx p : Int) else -1
theorem idxOf_nonneg (p : S35 → Bool) (l : List S35) : decide (0 ≤ idxOf p l) = l.any p := by
 unfold idxOf
 split
 ·
  rename_i h
  rw [h]
  exact decide_eq_true (Int.natCast_nonneg _)
 ·
  rename_i h
  rw [Bool.not_eq_true] at h
  rw [h]
  rfl
theorem idxOf_hit (p : S35 → Bool) (l : List S35) (x : Int) (h0 : 0 ≤ x) (h1 : x < (l.length : Int)) (hp : p (rd_T35 l x) = true) (hn : ∀ j : Nat, (j : Int) < x → p (rd_T35 l j) = false) : idxOf p l = x := by
 obtain ⟨n, rfl⟩ := Int.eq_ofNat_of_zero_le h0
 have hlt : n < l.length := by omega
 have e : ∀ j : Nat, (hj : j < l.length) → rd_T35 l (j : Int) = l[j] := fun j hj => by simp [rd_T35, hj]
 have hany : l.any p = true := List.any_eq_true.mpr ⟨l[n], List.getElem_mem hlt, by rw [← e n hlt]; exact hp⟩
 unfold idxOf
 rw [if_pos hany]
 congr 1
 rw [List.findIdx_eq hlt]
 exact ⟨by rw [← e n hlt]; exact hp, fun j hj => by rw [← e j (by omega)]; simpa using hn j (by omega)⟩
theorem idxOf_miss (p : S35 → Bool) (l : List S35) (hn : ∀ j : Nat, (j : Int) < (l.length : Int) → p (rd_T35 l j) = false) : idxOf p l = -1 := by
 have e : ∀ j : Nat, (hj : j < l.length) → rd_T35 l (j : Int) = l[j] := fun j hj => by simp [rd_T35, hj]
 unfold idxOf
 rw [if_neg]
 intro h
 obtain ⟨y, hy, hp⟩ := List.any_eq_true.mp h
 obtain ⟨j, hj, rfl⟩ := List.mem_iff_getElem.mp hy
 have := hn j (by omega)
 rw [e j hj, hp] at this
 cases this
set_option maxHeartbeats 8000000 in
set_option maxRecDepth 100000 in
theorem IndexFunc_R (g : Nat) (lb : Array Value) (eg : ∀ args w, (Go.callFunc g args).run Tryz.prog w = .ok (.enter g args) w) (p : S35 → Bool) (A0 : Option Addr) (c0 : Nat) (l : List S35) (w : World)
  (hp : ∀ (W : World) (x : S35), Below w.heap.size w W → Calls Tryz.prog g (#[.agg #[.int .i64 x.f0, .int .i64 x.f1]] ++ lb) W fun e w' => e = .returned (.bool (p x)) ∧ Below W.heap.size W w')
  (hr0 : Kd.C k35 w A0 l.length l) (hc0 : l.length ≤ c0) :
  Calls Tryz.prog 103 #[.slice A0 l.length c0, .func (.func g) #[] lb] w fun e w' => e = .returned (.int .i64 (idxOf p l)) ∧ Below w.heap.size w w' := by
 have hu26 := Tryz.underlying35
 have HM := Aside0.mk (Kd.C_max hr0)
 have HR0 := Aside0.mk hr0
 have HC0 := Aside0.mk hc0
 have HP := Aside0.mk hp
 clear hr0 hc0 hp
 go_enter Tryz.func103, Tryz.ntmps103
 go_wp2
 go_loopg [5, 8] l.length (fun gg _ s8 wr => ∃ x : Int, s8 = .int .i64 x ∧ Aside0 (0 ≤ x) ∧ Aside0 (x ≤ (l.length : Int)) ∧ Aside0 ((l.length : Int) - x ≤ gg) ∧ Aside0 (Below w.heap.size w wr) ∧ Aside0 (∀ j : Nat, (j : Int) < x → p (rd_T35 l j) = false))
 case atStart => exact ⟨0, rfl, ⟨Int.le_refl 0⟩, ⟨Int.natCast_nonneg _⟩, ⟨by omega⟩, ⟨Below.refl _ w⟩, ⟨fun j hj => by omega⟩⟩
 case round =>
  obtain ⟨x, rfl, HX, HL, HG, HB, HA⟩ := hrel
  by_cases c5 : x < (l.length : Int)
  ·
   have c5b0 : decide (x < (l.length : Int)) = true := decide_eq_true c5
   have c6b0 : decide (0 ≤ x) = true := decide_eq_true HX.out
   have C5 := Aside0.mk c5
   have p107 : 0 ≤ (x : Int) := HX.out
   have q107 : x < (l.length : Int) := c5
   obtain ⟨ad107, e107, hx107_0, hx107_1⟩ := at_T35 HR0.out x p107 q107
   cases e107
   replace hx107_0 := (HB.out.cell (World.block_lt_of_cell? w _ hx107_0)).trans hx107_0
   replace hx107_1 := (HB.out.cell (World.block_lt_of_cell? w _ hx107_1)).trans hx107_1
   have hcall := HP.out wr (rd_T35 l x) HB.out
   clear c5
   replace p107 := eq_true p107
   replace q107 := eq_true q107
   cases hq : p (rd_T35 l x) with
      | true =>
    rw [hq] at hcall
    have HQ := Aside0.mk hq
    clear hq
    go_wp2_with (go_at_fn g; refine hcall.mono ?_; rintro e w' ⟨rfl, hb⟩)
    go_ret
    exact ⟨by rw [idxOf_hit p l x HX.out C5.out HQ.out HA.out]; rfl, below_step HB.out hb⟩
      | false =>
    rw [hq] at hcall
    have HQ := Aside0.mk hq
    clear hq
    go_wp2_with (go_at_fn g; refine hcall.mono ?_; rintro e w' ⟨rfl, hb⟩)
    go_roundg (l.length - (x + 1).toNat)
    case measure =>
     have := C5.out
     have := HX.out
     have := HG.out
     omega
    case rel =>
     have h1 := C5.out
     have h2 := HX.out
     have h3 := HM.out
     have e1 : wrap64 (x + 1) = x + 1 := by unfold wrap64; omega
     refine ⟨x + 1, (by first | rfl | rw [e1] | (simp [e1]; done)), ⟨by omega⟩, ⟨by omega⟩, ⟨by omega⟩, ⟨below_step HB.out hb⟩, ⟨fun j hj => ?_⟩⟩
     by_cases e : (j : Int) = x
     ·
      rw [e]
      exact HQ.out
     ·
      exact HA.out j (by omega)
  ·
   have c5b0 : decide (x < (l.length : Int)) = false := decide_eq_false c5
   have C5 := Aside0.mk c5
   clear c5
   go_wp2
   go_ret
   exact ⟨by rw [idxOf_miss p l (fun j hj => HA.out j (by have := C5.out; omega))]; rfl, HB.out⟩
set_option maxHeartbeats 8000000 in
set_option maxRecDepth 100000 in
theorem ContainsFunc_R (g : Nat) (lb : Array Value) (eg : ∀ args w, (Go.callFunc g args).run Tryz.prog w = .ok (.enter g args) w) (p : S35 → Bool) (A0 : Option Addr) (c0 : Nat) (l : List S35) (w : World)
  (hp : ∀ (W : World) (x : S35), Below w.heap.size w W → Calls Tryz.prog g (#[.agg #[.int .i64 x.f0, .int .i64 x.f1]] ++ lb) W fun e w' => e = .returned (.bool (p x)) ∧ Below W.heap.size W w')
  (hr0 : Kd.C k35 w A0 l.length l) (hc0 : l.length ≤ c0) :
  Calls Tryz.prog 84 #[.slice A0 l.length c0, .func (.func g) #[] lb] w fun e w' => e = .returned (.bool (l.any p)) ∧ Below w.heap.size w w' := by
 have HC := Aside0.mk (IndexFunc_R g lb eg p A0 c0 l w hp hr0 hc0)
 have HI := Aside0.mk (idxOf_nonneg p l)
 clear hr0 hc0 hp eg
 go_enter Tryz.func84, Tryz.ntmps84
 go_wp2_with (go_at_call 103; refine HC.out.mono ?_; rintro e w' ⟨rfl, hb⟩)
 go_ret
 exact ⟨by rw [← HI.out]; rfl, hb⟩
theorem within_total (a b c : Int) : ∃ r, impl_within.f a b c = some r := by
 unfold impl_within.f
 split <;> exact ⟨_, rfl⟩
theorem isRunner_total (a b c : Int) : ∃ r, impl_isRunner.f a b c = some r := by
 obtain ⟨r1, h1⟩ := within_total b 0 (wrap64 (a - 1))
 obtain ⟨r2, h2⟩ := within_total c 1 100
 unfold impl_isRunner.f
 rw [h1]
 cases r1
 ·
  exact ⟨false, rfl⟩
 ·
  exact ⟨r2, by simp [h2]⟩
/-- no runner of a track -/
def noRun (a : Int) (x : S35) : Bool := !((impl_isRunner.f a x.f0 x.f1).getD false)
set_option maxHeartbeats 8000000 in
set_option maxRecDepth 100000 in
theorem clos52 (a : Int) (B : Nat) (w : World) (hB : B < w.heap.size) (hc : w.cell? ⟨B, 0, none⟩ = some (.int .i64 a)) (W : World) (x : S35) (hb : Below w.heap.size w W) :
  Calls Tryz.prog 85 (#[.agg #[.int .i64 x.f0, .int .i64 x.f1]] ++ #[.pointer (some ⟨B, 0, none⟩)]) W fun e w' => e = .returned (.bool (noRun a x)) ∧ Below W.heap.size W w' := by
 have hcW := (hb.cell (p := ⟨B, 0, none⟩) hB).trans hc
 have hBW : B < W.heap.size := Nat.lt_of_lt_of_le hB hb.size
 clear hb hc hB
 obtain ⟨r, hr⟩ := isRunner_total a x.f0 x.f1
 have HR := Aside0.mk hr
 have HN := Aside0.mk (show noRun a x = !r by unfold noRun; rw [hr]; rfl)
 clear hr
 go_enter Tryz.func85, Tryz.ntmps85
 go_wp2_with (go_at_call 86; refine (impl_isRunner.calls a x.f0 x.f1 r _ HR.out).mono ?_; rintro e w' ⟨rfl, hb⟩)
 go_ret
 exact ⟨by rw [HN.out]; rfl, by first | exact hb | exact below_step (below_alloc (Below.refl _ _) _) hb⟩
def impl_AreRunners.f (a0 : Int) (l1 : List (S35)) : Option (Bool) := (impl_within.f a0 2 1000).bind fun t1 => (if t1 = true then ((impl_within.f (l1.length : Int) 1 6).bind fun t2 => (if t2 = true then (some (!(l1.any (noRun a0)))) else (some false))) else (some false))
set_option maxHeartbeats 8000000 in
set_option maxRecDepth 100000 in
theorem impl_AreRunners.calls (a0 : Int) (A1 : Option Addr) (c1 : Nat) (l1 : List (S35)) (r : Bool) (w : World) (hr1 : Kd.C k35 w A1 l1.length l1) (hc1 : l1.length ≤ c1) (h : impl_AreRunners.f a0 l1 = some r) :
  Calls Tryz.prog 42 #[.int .i64 a0, .slice A1 l1.length c1] w fun e w' => e = .returned (.bool r) ∧ Below w.heap.size w w' := by
 have H := h
 unfold impl_AreRunners.f at H
 clear h
 have eg : ∀ args w, (Go.callFunc 85 args).run Tryz.prog w = .ok (.enter 85 args) w := enters_of Tryz.func85 (by kernel_rfl) rfl
 have HE := A_ eg
 have HR1 := A_ hr1
 have HC1 := A_ hc1
 clear hr1 hc1 eg
 replace H := ob_ H
 obtain ⟨t1, A3, H⟩ := H
 cases t1 with
  | false =>
  have Hr := A_ (show r = false by simpa using H.symm)
  clear H
  go_enter Tryz.func42, Tryz.ntmps42
  go_wp2_with (go_at_call 83; refine (impl_within.calls a0 2 1000 false _ A3.out).mono ?_; rintro e w' ⟨rfl, ⟨nd, rfl⟩⟩)
  go_ret
  exact ⟨by rw [Hr.out]; rfl, by repeat (first | exact Below.refl _ _ | apply below_alloc | apply pw_below_drewN | apply below_drew1)⟩
  | true =>
  replace H := Option.bind_eq_some_iff.mp (show ((impl_within.f (l1.length : Int) 1 6).bind fun t2 => (if t2 = true then (some (!(l1.any (noRun a0)))) else (some false))) = some r from H)
  obtain ⟨t2, A40, H⟩ := H
  have A4 := A_ A40
  clear A40
  cases t2 with
    | false =>
   have Hr := A_ (show r = false by simpa using H.symm)
   clear H
   go_enter Tryz.func42, Tryz.ntmps42
   go_wp2_with (first | (go_at_call 83; (with_reducible refine (impl_within.calls a0 2 1000 true _ A3.out).mono ?_); rintro e w' ⟨rfl, ⟨nd, rfl⟩⟩) | (go_at_call 83; (with_reducible refine (impl_within.calls (l1.length : Int) 1 6 false _ A4.out).mono ?_); rintro e w' ⟨rfl, ⟨nd2, rfl⟩⟩))
   go_ret
   exact ⟨by rw [Hr.out]; rfl, by repeat (first | exact Below.refl _ _ | apply below_alloc | apply pw_below_drewN | apply below_drew1)⟩
    | true =>
   have Hr := A_ (show r = !(l1.any (noRun a0)) by simpa using H.symm)
   clear H
   have HF := A_ (fun (W : World) (hW : Below w.heap.size w W) (hB : w.heap.size < W.heap.size) (hc : W.cell? ⟨w.heap.size, 0, none⟩ = some (.int .i64 a0)) => ContainsFunc_R 85 #[.pointer (some ⟨w.heap.size, 0, none⟩)] HE.out (noRun a0) A1 c1 l1 W (fun W' x hb => clos52 a0 w.heap.size W hB hc W' x hb) (Kd.C_below HR1.out hW) HC1.out)
   go_enter Tryz.func42, Tryz.ntmps42
   go_wp2_with (first | (go_at_call 83; (with_reducible refine (impl_within.calls a0 2 1000 true _ A3.out).mono ?_); rintro e w' ⟨rfl, ⟨nd, rfl⟩⟩) | (go_at_call 83; (with_reducible refine (impl_within.calls (l1.length : Int) 1 6 true _ A4.out).mono ?_); rintro e w' ⟨rfl, ⟨nd2, rfl⟩⟩) | (go_at_call 84; refine (HF.out _ (by repeat (first | exact Below.refl _ _ | apply below_alloc | apply pw_below_drewN | apply below_drew1)) (by simp) (by simp)).mono ?_; rintro e w' ⟨rfl, hb⟩))
   go_ret
   exact ⟨by rw [Hr.out]; rfl, below_step (by repeat (first | exact Below.refl _ _ | apply below_alloc | apply pw_below_drewN | apply below_drew1)) hb⟩

/-! ### impl_isRunTime: function 43 -/
def impl_isRunTime.f (a0 : Int) : Option (Bool) := (impl_within.f a0 0 1000000).bind fun t198 => (some t198)
set_option maxHeartbeats 8000000 in
set_option maxRecDepth 100000 in
theorem impl_isRunTime.calls (a0 : Int) (r : Bool) (w : World) (h : impl_isRunTime.f a0 = some r) :
  Calls Tryz.prog 43 #[.int .i64 a0] w fun e w' => e = .returned (.bool r) ∧ Drawn0 w w' := by
 have H : ((impl_within.f a0 0 1000000).bind fun t198 => (some t198)) = some r := h
 clear h
 replace H := Option.bind_eq_some_iff.mp H
 obtain ⟨t198, A20, H⟩ := H
 replace H : (some t198) = some r := H
 have A2 := A_ A20
 clear A20
 obtain rfl := Option.some.inj H
 go_enter Tryz.func43, Tryz.ntmps43
 go_wp2_with (first | ((with_reducible refine gate_callee (f := 83) rfl ?_); refine gl_ (some 4) Tryz.func83 #[.int .i64 a0, .int .i64 0, .int .i64 1000000] ?_; (with_reducible refine (impl_within.calls a0 0 1000000 t198 _ A2.out).mono ?_); rintro e w' ⟨rfl, ⟨nd, rfl⟩⟩; refine ⟨_, rfl, ?_⟩))
 go_ret
 exact ⟨rs_, by repeat (first | exact Drawn0.refl _ | apply Drawn0.step)⟩


/-! ### impl_OrderOnTrack: function 6 -/
/-- a value put into its place, seen from behind -/
def insRev {α : Type} (lt : α → α → Bool) (x : α) : List α → List α
  | [] => [x]
  | y :: r => if lt x y = true then y :: insRev lt x r else x :: y :: r
def sortRev {α : Type} (lt : α → α → Bool) (l p : List α) : List α := l.foldl (fun p x => insRev lt x p) p
theorem insRev_length {α : Type} (lt : α → α → Bool) (x : α) (p : List α) : (insRev lt x p).length = p.length + 1 := by
 induction p with
  | nil => rfl
  | cons y r ih =>
  unfold insRev
  split
  ·
   rw [List.length_cons, ih, List.length_cons]
  ·
   rw [List.length_cons]
theorem getE {α : Type} [Inhabited α] (d : Array α) (l : List α) (h : d.toList = l) (i : Nat) (x : α) (hx : l[i]? = some x) : d[i]! = x := by
 subst h
 rw [Array.getElem?_toList] at hx
 rw [getElem!_def, hx]
theorem insInner_rev {α : Type} [Inhabited α] (lt : α → α → Bool) (x : α) (p : List α) : ∀ (rest : List α) (d : Array α), d.toList = p.reverse ++ x :: rest → (Go.Sort.insInner lt 0 p.length d).toList = (insRev lt x p).reverse ++ rest := by
 induction p with
  | nil =>
  intro rest d h
  rw [List.length_nil, Go.Sort.insInner, h]
  rfl
  | cons y r ih =>
  intro rest d h
  have h1 : d[r.length + 1]! = x := getE d _ h _ _ (by rw [List.reverse_cons]; simp)
  have h0 : d[r.length]! = y := getE d _ h _ _ (by rw [List.reverse_cons]; simp)
  have hsz : d.size = r.length + 2 + rest.length := by
   rw [← Array.length_toList, h]
   simp
   omega
  rw [List.length_cons]
  unfold insRev
  cases hl : lt x y with
    | true =>
   rw [insInner_go lt 0 (r.length + 1) d (by omega) (by rw [h1, Nat.add_sub_cancel, h0]; exact hl), Nat.add_sub_cancel, if_pos rfl, List.reverse_cons]
   rw [ih (y :: rest) _ ?_]
   ·
    simp
   ·
    unfold Go.Sort.swp
    rw [h0, h1, Array.toList_setIfInBounds, Array.toList_setIfInBounds, h, List.reverse_cons]
    simp
    | false =>
   rw [insInner_stop lt 0 (r.length + 1) d (.inr (by rw [h1, Nat.add_sub_cancel, h0]; exact hl)), if_neg Bool.false_ne_true, h]
   simp
theorem insOuter_rev {α : Type} [Inhabited α] (lt : α → α → Bool) (rest : List α) : ∀ (p : List α) (d : Array α) (b : Nat), d.toList = p.reverse ++ rest → b = d.size → (Go.Sort.insOuter lt 0 b p.length d).toList = (sortRev lt rest p).reverse := by
 induction rest with
  | nil =>
  intro p d b h hb
  have hs : d.size = p.length := by rw [← Array.length_toList, h]; simp
  rw [insOuter_stop _ _ _ _ _ (by omega), h, List.append_nil]
  rfl
  | cons x r ih =>
  intro p d b h hb
  have hs : d.size = p.length + (r.length + 1) := by rw [← Array.length_toList, h]; simp
  have hi := insInner_rev lt x p r d h
  rw [insOuter_go _ _ _ _ _ (by omega)]
  have := ih (insRev lt x p) (Go.Sort.insInner lt 0 p.length d) b hi (by rw [← Array.length_toList, hi, List.length_append, List.length_reverse, insRev_length]; omega)
  rw [insRev_length] at this
  rw [this]
  rfl
theorem insertionSort_rev {α : Type} [Inhabited α] (lt : α → α → Bool) (l : List α) (h : l ≠ []) : (Go.Sort.insertionSort lt l.toArray 0 l.length).toList = (sortRev lt l []).reverse := by
 cases l with
  | nil => exact absurd rfl h
  | cons x r =>
  unfold Go.Sort.insertionSort
  exact insOuter_rev lt r [x] (x :: r).toArray (x :: r).length (by simp) (by simp)
/-- how far a runner is; runners by their numbers, the farthest one first -/
def farN (l : List S35) (t : Int) (i : Nat) : Int := wrap64 ((rd_T35 l ((i % l.length : Nat) : Int)).f0 + wrap64 ((rd_T35 l ((i % l.length : Nat) : Int)).f1 * t))
def ltN (l : List S35) (t : Int) (x y : Nat) : Bool := decide (farN l t y < farN l t x)
def cfN (l : List S35) (t : Int) (x y : Nat) : Int := Go.Lib.compareInt (farN l t y) (farN l t x)
def orderN (l : List S35) (t : Int) : List Int := (sortRev (ltN l t) (List.range l.length) []).reverse.map fun x => ((x % l.length : Nat) : Int)
def encN (n : Nat) (x : Nat) : Value := .int .i64 ((x % n : Nat) : Int)
theorem ltOf_cfN (l : List S35) (t : Int) : ltOf (cfN l t) = ltN l t := by
 funext x y
 unfold ltOf cfN ltN Go.Lib.compareInt
 by_cases h1 : farN l t y < farN l t x
 ·
  simp [h1]
 ·
  by_cases h2 : farN l t x < farN l t y <;> simp [h1, h2]
set_option maxHeartbeats 8000000 in
set_option maxRecDepth 100000 in
theorem farAt_ex (a b t : Int) (W : World) : Calls Tryz.prog 47 #[.agg #[.int .i64 a, .int .i64 b], .int .i64 t] W fun e w' => e = .returned (.int .i64 (wrap64 (a + wrap64 (b * t)))) ∧ ∃ q os', w' = Go.Sort.grow (W.drewN q) os' := by
 go_enter Tryz.func47, Tryz.ntmps47
 go_wp2
 go_ret
 exact ⟨rfl, 0, _, by rw [Go.Sort.alloc_eq_grow]; rfl⟩
set_option maxHeartbeats 8000000 in
set_option maxRecDepth 100000 in
theorem clos_order (l : List S35) (t : Int) (ad : Addr) (c1 bL bT : Nat) (i j : Int) (W : World) (hi : 0 ≤ i ∧ i < (l.length : Int)) (hj : 0 ≤ j ∧ j < (l.length : Int))
  (hL : ∀ n os, (Go.Sort.grow (W.drewN n) os).cell? ⟨bL, 0, none⟩ = some (.slice (some ad) l.length c1))
  (hT : ∀ n os, (Go.Sort.grow (W.drewN n) os).cell? ⟨bT, 0, none⟩ = some (.int .i64 t))
  (a0 a1 b0 b1 : Int)
  (hi0 : ∀ n os, (Go.Sort.grow (W.drewN n) os).cell? (ad.add (i.toNat * 2)) = some (.int .i64 a0))
  (hi1 : ∀ n os, (Go.Sort.grow (W.drewN n) os).cell? ⟨(ad.add (i.toNat * 2)).block, (ad.add (i.toNat * 2)).off + 1, none⟩ = some (.int .i64 a1))
  (hj0 : ∀ n os, (Go.Sort.grow (W.drewN n) os).cell? (ad.add (j.toNat * 2)) = some (.int .i64 b0))
  (hj1 : ∀ n os, (Go.Sort.grow (W.drewN n) os).cell? ⟨(ad.add (j.toNat * 2)).block, (ad.add (j.toNat * 2)).off + 1, none⟩ = some (.int .i64 b1)) :
  Calls Tryz.prog 45 #[.int .i64 i, .int .i64 j, .pointer (some ⟨bL, 0, none⟩), .pointer (some ⟨bT, 0, none⟩)] W fun e w' => e = .returned (.int .i64 (Go.Lib.compareInt (wrap64 (b0 + wrap64 (b1 * t))) (wrap64 (a0 + wrap64 (a1 * t))))) ∧ ∃ q os', w' = Go.Sort.grow (W.drewN q) os' := by
 have HF := Aside0.mk (fun a b n os => Go.Calls.grown_of (farAt_ex a b t (Go.Sort.grow (W.drewN n) os)))
 have HC := Aside0.mk (fun x y (n : Nat) (os : Array Obj) => Go.Calls.grown_of ((AnyG.cmp_Compare_int Tryz.ordCmpL x y (Go.Sort.grow (W.drewN n) os)).mono fun e w' hw => ⟨hw.1, 0, #[], by rw [hw.2, Go.Sort.grow_empty]; rfl⟩))
 have mixed := Tryz.ordInsL.mixed
 obtain ⟨p1, p2⟩ := hi
 obtain ⟨p3, p4⟩ := hj
 replace p1 := eq_true p1
 replace p2 := eq_true p2
 replace p3 := eq_true p3
 replace p4 := eq_true p4
 go_enter Tryz.func45, Tryz.ntmps45
 go_wp2_with fail
 go_quiet_grown (first | (go_at_call 47; exact HF.out _ _ _ _) | (go_at_call 46; exact HC.out _ _ _ _))
 go_wp2
 go_ret
 exact ⟨rfl, _, _, rfl⟩
theorem sort_cell {α : Type} [Inhabited α] (enc : α → Value) (w : World) (g m : Nat) (dk : Array α) (os : Array Obj) (a : Addr) (h1 : a.block ≠ g) (h2 : a.block < w.heap.size) (n : Nat) (os' : Array Obj) : (Go.Sort.grow ((sortWorld enc w g 0 m dk os).drewN n) os').cell? a = w.cell? a := by
 rw [sortWorld_grown_c]
 unfold sortWorld
 rw [Go.Sort.cell?_grow _ _ _ (by rw [size_putRow]; exact h2), Go.Sort.cell?_putRow_other _ _ _ _ _ _ (.inl h1)]
 rfl
/-- what the sort leans on: the two captured cells, the runners -/
structure OrdIn (l : List S35) (t : Int) (ad : Addr) (c1 bL bT g : Nat) (w : World) : Prop where
  hn : 1 ≤ l.length ∧ l.length ≤ 6
  hg : g < w.heap.size
  hbL : bL < w.heap.size ∧ bL ≠ g
  hbT : bT < w.heap.size ∧ bT ≠ g
  hL : w.cell? ⟨bL, 0, none⟩ = some (.slice (some ad) l.length c1)
  hT : w.cell? ⟨bT, 0, none⟩ = some (.int .i64 t)
  hC : Kd.C k35 w (some ad) l.length l
  had : ad.block < w.heap.size ∧ ad.block ≠ g
  hH : Go.Sort.Holds (encN l.length) w g 0 (List.range l.length).toArray
theorem ord_cmp {l : List S35} {t : Int} {ad : Addr} {c1 bL bT g : Nat} {w : World} (H : OrdIn l t ad c1 bL bT g w) :
  CmpLays1 Tryz.prog 45 #[.pointer (some ⟨bL, 0, none⟩), .pointer (some ⟨bT, 0, none⟩)] (encN l.length) (cfN l t) g 0 (List.range l.length).toArray.size w := by
 intro m os dk hs x y
 have hn := H.hn
 have hx : 0 ≤ ((x % l.length : Nat) : Int) ∧ ((x % l.length : Nat) : Int) < (l.length : Int) := by
  have := Nat.mod_lt x (show l.length > 0 by omega)
  omega
 have hy : 0 ≤ ((y % l.length : Nat) : Int) ∧ ((y % l.length : Nat) : Int) < (l.length : Int) := by
  have := Nat.mod_lt y (show l.length > 0 by omega)
  omega
 obtain ⟨ad1, e1, hx0, hx1⟩ := at_T35 H.hC _ hx.1 hx.2
 obtain ⟨ad2, e2, hy0, hy1⟩ := at_T35 H.hC _ hy.1 hy.2
 cases e1
 cases e2
 have cellK : ∀ a : Addr, a.block = ad.block → ∀ n os', (Go.Sort.grow ((sortWorld (encN l.length) w g 0 m dk os).drewN n) os').cell? a = w.cell? a := fun a ha n os' => sort_cell _ w g m dk os a (by rw [ha]; exact H.had.2) (by rw [ha]; exact H.had.1) n os'
 exact clos_order l t ad c1 bL bT ((x % l.length : Nat) : Int) ((y % l.length : Nat) : Int) (sortWorld (encN l.length) w g 0 m dk os) hx hy
  (fun n os' => (sort_cell _ w g m dk os ⟨bL, 0, none⟩ H.hbL.2 H.hbL.1 n os').trans H.hL)
  (fun n os' => (sort_cell _ w g m dk os ⟨bT, 0, none⟩ H.hbT.2 H.hbT.1 n os').trans H.hT)
  (rd_T35 l ((x % l.length : Nat) : Int)).f0 (rd_T35 l ((x % l.length : Nat) : Int)).f1 (rd_T35 l ((y % l.length : Nat) : Int)).f0 (rd_T35 l ((y % l.length : Nat) : Int)).f1
  (by intro n os'; refine (cellK _ ?_ n os').trans hx0; exact add_block _ _)
  (by intro n os'; refine (cellK _ ?_ n os').trans hx1; exact add_block _ _)
  (by intro n os'; refine (cellK _ ?_ n os').trans hy0; exact add_block _ _)
  (by intro n os'; refine (cellK _ ?_ n os').trans hy1; exact add_block _ _)
theorem ord_ins {l : List S35} {t : Int} {ad : Addr} {c1 bL bT g : Nat} {w : World} (H : OrdIn l t ad c1 bL bT g w) (cap : Nat) :
  Calls Tryz.prog 104 #[.slice (some ⟨g, 0, none⟩) l.length cap, .int .i64 0, .int .i64 l.length, .func (.func 45) #[] #[.pointer (some ⟨bL, 0, none⟩), .pointer (some ⟨bT, 0, none⟩)]] w
   fun e w' => e = .returned (.tuple #[]) ∧ ∃ m os, w' = sortWorld (encN l.length) w g 0 m (Go.Sort.insertionSort (ltOf (cfN l t)) (List.range l.length).toArray 0 l.length) os := by
 have hs : (List.range l.length).toArray.size = l.length := by simp
 have eg : ∀ args w, (Go.callFunc 45 args).run Tryz.prog w = .ok (.enter 45 args) w := enters_of Tryz.func45 (by kernel_rfl) rfl
 have R : Row1 (encN l.length) w g 0 (List.range l.length).toArray := ⟨fun _ => rfl, H.hH, H.hg⟩
 have hS : SW (encN l.length) w g 0 (List.range l.length).toArray w := SW.start H.hH
 have := H.hn
 have h := Any.insertionSortCmpFunc_s (P := Tryz.prog) (ρ := Tryz.ordInsL_ren) Tryz.ordInsL (encN l.length) (cfN l t) 45 #[.pointer (some ⟨bL, 0, none⟩), .pointer (some ⟨bT, 0, none⟩)] g 0 cap 0 l.length (List.range l.length).toArray (List.range l.length).toArray w w eg (ord_cmp H) R rfl hS (Nat.zero_le _) (by omega) (by omega)
 rw [hs] at h
 exact h
set_option maxHeartbeats 8000000 in
set_option maxRecDepth 100000 in
theorem ord_stable {l : List S35} {t : Int} {ad : Addr} {c1 bL bT g : Nat} {w : World} (H : OrdIn l t ad c1 bL bT g w) (cap : Nat) :
  Calls Tryz.prog 87 #[.slice (some ⟨g, 0, none⟩) l.length cap, .int .i64 l.length, .func (.func 45) #[] #[.pointer (some ⟨bL, 0, none⟩), .pointer (some ⟨bT, 0, none⟩)]] w
   fun e w' => e = .returned (.tuple #[]) ∧ ∃ m os, w' = sortWorld (encN l.length) w g 0 m (Go.Sort.insertionSort (ltOf (cfN l t)) (List.range l.length).toArray 0 l.length) os := by
 have HI := Aside0.mk (ord_ins H cap)
 have hn := H.hn
 have h1 : ¬ (20 : Int) ≤ (l.length : Int) := by omega
 have h2 : ¬ (20 : Int) < (l.length : Int) := by omega
 have h1b : decide ((20 : Int) ≤ (l.length : Int)) = false := decide_eq_false h1
 have h2b : decide ((20 : Int) < (l.length : Int)) = false := decide_eq_false h2
 clear H hn
 go_enter Tryz.func87, Tryz.ntmps87
 go_wp2
 go_loopg [7, 8] 0 (fun gg v7 v8 wr => v7 = .int .i64 0 ∧ v8 = .int .i64 20 ∧ wr = w)
 case atStart => exact ⟨rfl, rfl, rfl⟩
 case round =>
  obtain ⟨rfl, rfl, rfl⟩ := hrel
  go_wp2_with (go_at_call 104; refine HI.out.mono ?_; rintro e w' ⟨rfl, hw⟩)
  go_loopg [6, 7, 8] 0 (fun gg v6 v7 v8 wr => v6 = .int .i64 20 ∧ wr = w')
  case atStart => exact ⟨rfl, rfl⟩
  case round =>
   obtain ⟨rfl, rfl⟩ := hrel
   go_wp2
   go_end0
   exact ⟨rfl, hw⟩
set_option maxHeartbeats 8000000 in
set_option maxRecDepth 100000 in
theorem ord_whole {l : List S35} {t : Int} {ad : Addr} {c1 bL bT g : Nat} {w : World} (H : OrdIn l t ad c1 bL bT g w) (cap : Nat) :
  Calls Tryz.prog 44 #[.slice (some ⟨g, 0, none⟩) l.length cap, .func (.func 45) #[] #[.pointer (some ⟨bL, 0, none⟩), .pointer (some ⟨bT, 0, none⟩)]] w
   fun e w' => e = .returned (.tuple #[]) ∧ ∃ m os, w' = sortWorld (encN l.length) w g 0 m (Go.Sort.insertionSort (ltOf (cfN l t)) (List.range l.length).toArray 0 l.length) os := by
 have HI := Aside0.mk (ord_stable H cap)
 clear H
 go_enter Tryz.func44, Tryz.ntmps44
 go_wp2_with (go_at_call 87; refine HI.out.mono ?_; rintro e w' ⟨rfl, hw⟩)
 go_end0
 exact ⟨rfl, hw⟩
theorem insRev_perm_len {α : Type} (lt : α → α → Bool) (l : List α) : ∀ p, (sortRev lt l p).length = p.length + l.length := by
 induction l with
  | nil => intro p; rfl
  | cons x r ih =>
  intro p
  show (sortRev lt r (insRev lt x p)).length = _
  rw [ih, insRev_length, List.length_cons]
  omega
theorem orderN_length (l : List S35) (t : Int) : (orderN l t).length = l.length := by
 unfold orderN
 rw [List.length_map, List.length_reverse, insRev_perm_len, List.length_range, List.length_nil]
 omega
def upN (n : Nat) : List Int := (List.range n).map fun (i : Nat) => (i : Int)
theorem upN_length (n : Nat) : (upN n).length = n := by simp [upN]
theorem sortWorld_int (n : Nat) (w : World) (g m : Nat) (d : Array Nat) (os : Array Obj) : sortWorld (encN n) w g 0 m d os = Go.Sort.grow (Go.Sort.putRow (Value.int .i64) (Go.Sort.ahead w m) g 0 (d.map fun x => ((x % n : Nat) : Int))) os := by
 unfold sortWorld Go.Sort.putRow
 congr 2
 funext c
 unfold Go.Sort.putCells
 congr 1
 funext k x
 rw [Array.size_map]
 by_cases h : 0 ≤ k ∧ k < 0 + d.size
 ·
  rw [if_pos h, if_pos h]
  have hk : k - 0 < d.size := by omega
  rw [getElem!_pos d _ hk, getElem!_pos _ _ (by rw [Array.size_map]; exact hk), Array.getElem_map]
  rfl
 ·
  rw [if_neg h, if_neg h]
theorem ord_R {l : List S35} {t : Int} {ad : Addr} {c1 bL bT base : Nat} {w : World} {v : Value} (hR : Kd.R (Kd.int .i64) 3 w base (fun _ => True) v (upN l.length)) (hn : 1 ≤ l.length ∧ l.length ≤ 6) (hbase : base ≤ w.heap.size) (hbL : bL < base) (hbT : bT < base) (had : ad.block < base)
  (hL : w.cell? ⟨bL, 0, none⟩ = some (.slice (some ad) l.length c1)) (hT : w.cell? ⟨bT, 0, none⟩ = some (.int .i64 t)) (hC : Kd.C k35 w (some ad) l.length l) :
  Calls Tryz.prog 44 #[v, .func (.func 45) #[] #[.pointer (some ⟨bL, 0, none⟩), .pointer (some ⟨bT, 0, none⟩)]] w
   fun e w' => e = .returned (.tuple #[]) ∧ Kd.R (Kd.int .i64) 3 w' base (fun _ => True) v (orderN l t) ∧ Below base w w' := by
 have ho := Kd.own_of_R (enc := Value.int .i64) (h1 := fun _ => rfl) hR
 rcases ho with ⟨hb0, ⟨_, hn0⟩ | ⟨g, cap, cur, rfl, hg, hh, h1, h2, h3, h4⟩⟩
 ·
  rw [upN_length] at hn0
  simp at hn0
  rw [hn0] at hn
  simp at hn
 ·
  have hlt : g < w.heap.size := (Array.getElem?_eq_some_iff.1 hh).1
  rw [Nat.mul_one] at h4
  have hold := holds_of_blockI hh h4
  have hH : Go.Sort.Holds (encN l.length) w g 0 (List.range l.length).toArray := by
   intro j hj
   have hj2 : j < l.length := by simpa using hj
   obtain ⟨q1, q2⟩ := hold j (by simp [upN]; exact hj2)
   refine ⟨?_, q2⟩
   rw [q1]
   have e1 : (upN l.length).toArray[j]! = (j : Int) := getE _ _ rfl _ _ (by simp [upN, hj2])
   have e2 : (List.range l.length).toArray[j]! = j := getE _ _ rfl _ _ (by simp [hj2])
   rw [e1, e2]
   unfold encN
   rw [Nat.mod_eq_of_lt hj2]
  have H : OrdIn l t ad c1 bL bT g w := ⟨hn, hlt, ⟨by omega, by omega⟩, ⟨by omega, by omega⟩, hL, hT, hC, ⟨by omega, by omega⟩, hH⟩
  rw [upN_length]
  refine (ord_whole H cap).mono ?_
  rintro e w' ⟨rfl, m, os, rfl⟩
  have hd : (Go.Sort.insertionSort (ltOf (cfN l t)) (List.range l.length).toArray 0 l.length).map (fun x => ((x % l.length : Nat) : Int)) = (orderN l t).toArray := by
   apply Array.toList_inj.mp
   rw [Array.toList_map]
   have := insertionSort_rev (ltOf (cfN l t)) (List.range l.length) (by
    intro e
    have := congrArg List.length e
    rw [List.length_range, List.length_nil] at this
    omega)
   rw [List.length_range] at this
   rw [this, ltOf_cfN]
   rfl
  rw [sortWorld_int, hd]
  have hgb := grownBy_sortedI (w := w) (g := g) (n := m) (os := os) (orderN l t).toArray
  have hlen : (orderN l t).length = (upN l.length).length := by rw [orderN_length, upN_length]
  have hrow := ownsRow_sortedI (n := m) (os := os) hlen hg hh h1 h2 h3
  refine ⟨rfl, ?_, (Below.refl base w).grown hgb hbase (fun k hk => by cases hk; exact hg)⟩
  have e0 : (upN l.length).length = (orderN l t).length := hlen.symm
  rw [upN_length] at hrow e0
  exact Kd.R_of_own (by rw [← e0]; exact hrow) (fun k hk => trivial)
def impl_OrderOnTrack.f (a0 : Int) (l1 : List (S35)) (a2 : Int) : Option (List Int × Bool) := (impl_AreRunners.f a0 l1).bind fun t1 => (if t1 = true then ((impl_isRunTime.f a2).bind fun t2 => (if t2 = true then (some (orderN l1 a2, true)) else (some (([] : List Int), false)))) else (some (([] : List Int), false)))
theorem areRunners_len {a : Int} {l : List S35} (h : impl_AreRunners.f a l = some true) : 1 ≤ l.length ∧ l.length ≤ 6 := by
 unfold impl_AreRunners.f at h
 obtain ⟨t1, _, h⟩ := Option.bind_eq_some_iff.mp h
 cases t1 with
  | false => simp at h
  | true =>
  obtain ⟨t2, h2, h⟩ := Option.bind_eq_some_iff.mp (show ((impl_within.f (l.length : Int) 1 6).bind fun t2 => (if t2 = true then (some (!(l.any (noRun a)))) else (some false))) = some true from h)
  cases t2 with
    | false => simp at h
    | true =>
   unfold impl_within.f at h2
   by_cases c : (l.length : Int) ≥ 1
   ·
    rw [if_pos c] at h2
    have := of_decide_eq_true (Option.some.inj h2)
    omega
   ·
    rw [if_neg c] at h2
    simp at h2
theorem up_start (n : Nat) : (List.range 0).map (fun (i : Nat) => (i : Int)) ++ List.replicate (n - 0) 0 = List.replicate n 0 := by simp
theorem up_step (n i : Nat) (h : i < n) : ((List.range i).map (fun (i : Nat) => (i : Int)) ++ List.replicate (n - i) 0).set i (i : Int) = (List.range (i + 1)).map (fun (i : Nat) => (i : Int)) ++ List.replicate (n - (i + 1)) 0 := by
 obtain ⟨m, hm⟩ : ∃ m, n - i = m + 1 := ⟨n - i - 1, by omega⟩
 have hm2 : n - (i + 1) = m := by omega
 rw [List.set_append_right _ _ (by simp), hm, hm2, List.range_succ, List.map_append, List.append_assoc]
 simp [List.replicate_succ]
theorem up_end (n : Nat) : (List.range n).map (fun (i : Nat) => (i : Int)) ++ List.replicate (n - n) 0 = upN n := by simp [upN]
set_option maxHeartbeats 16000000 in
set_option maxRecDepth 100000 in
theorem impl_OrderOnTrack.calls (a0 : Int) (A1 : Option Addr) (c1 : Nat) (l1 : List (S35)) (a2 : Int) (r1 : List Int) (r2 : Bool) (w : World) (hr1 : Kd.C k35 w A1 l1.length l1) (hc1 : l1.length ≤ c1) (h : impl_OrderOnTrack.f a0 l1 a2 = some (r1, r2)) :
  Calls Tryz.prog 6 #[.int .i64 a0, .slice A1 l1.length c1, .int .i64 a2] w fun e w' => ∃ v0_ : Value, e = .returned (.tuple #[v0_, .bool r2]) ∧ Kd.R (Kd.int .i64) 3 w' w.heap.size (fun _ => True) v0_ r1 ∧ Below w.heap.size w w' := by
 have H := h
 unfold impl_OrderOnTrack.f at H
 clear h
 have HR1 := A_ hr1
 have HC1 := A_ hc1
 clear hr1 hc1
 have HB := A_ (Below.refl w.heap.size w)
 replace H := ob_ H
 obtain ⟨t1, A3, H⟩ := H
 cases t1 with
  | false =>
  have Hr := A_ (show r1 = [] ∧ r2 = false by simpa [eq_comm] using H)
  clear H
  go_enter Tryz.func6, Tryz.ntmps6
  go_wp2_with (go_at_call 42; refine (impl_AreRunners.calls a0 A1 c1 l1 false _ (by repeat (first | exact HR1.out | (with_reducible refine Kd.C_alloc ?_ _))) HC1.out A3.out).mono ?_; rintro e w1 ⟨rfl, hb⟩; have HB1 := A_ (below_step (by repeat (first | exact HB.out | apply below_alloc)) hb); clear hb)
  go_ret2
  exact ⟨_, by rw [Hr.out.2]; rfl, by rw [Hr.out.1]; exact Kd.R_nil _ _ _ _ _, by repeat (first | exact HB1.out | apply below_alloc | apply pw_below_drewN | apply below_drew1)⟩
  | true =>
  have hlen := areRunners_len A3.out
  replace H := Option.bind_eq_some_iff.mp (show ((impl_isRunTime.f a2).bind fun t2 => (if t2 = true then (some (orderN l1 a2, true)) else (some (([] : List Int), false)))) = some (r1, r2) from H)
  obtain ⟨t2, A40, H⟩ := H
  have A4 := A_ A40
  clear A40
  obtain ⟨ad, e1, hx0, _⟩ := at_T35 HR1.out 0 (by omega) (by omega)
  subst e1
  have hadw : ad.block < w.heap.size := by
   have := World.block_lt_of_cell? w _ hx0
   rwa [add_block] at this
  have HAD := A_ hadw
  have HLEN := A_ hlen
  clear hx0 hadw hlen
  cases t2 with
    | false =>
   have Hr := A_ (show r1 = [] ∧ r2 = false by simpa [eq_comm] using H)
   clear H
   go_enter Tryz.func6, Tryz.ntmps6
   go_wp2_with (first | (go_at_call 42; refine (impl_AreRunners.calls a0 _ c1 l1 true _ (by repeat (first | exact HR1.out | (with_reducible refine Kd.C_alloc ?_ _))) HC1.out A3.out).mono ?_; rintro e w1 ⟨rfl, hb⟩; have HB1 := A_ (below_step (by repeat (first | exact HB.out | apply below_alloc)) hb); have hT1 : w1.cell? ⟨w.heap.size + 1, 0, none⟩ = some (.int .i64 a2) := (hb.cell (p := ⟨w.heap.size + 1, 0, none⟩) (by simp)).trans (by simp); clear hb) | (go_at_call 43; refine (impl_isRunTime.calls a2 false _ A4.out).mono ?_; rintro e w' ⟨rfl, ⟨nd, rfl⟩⟩))
   go_ret2
   exact ⟨_, by rw [Hr.out.2]; rfl, by rw [Hr.out.1]; exact Kd.R_nil _ _ _ _ _, by repeat (first | exact HB1.out | apply below_alloc | apply pw_below_drewN | apply below_drew1)⟩
    | true =>
   have Hr := A_ (show r1 = orderN l1 a2 ∧ r2 = true by simpa [eq_comm] using H)
   clear H
   go_enter Tryz.func6, Tryz.ntmps6
   go_wp2_with (first | (go_at_call 42; refine (impl_AreRunners.calls a0 _ c1 l1 true _ (by repeat (first | exact HR1.out | (with_reducible refine Kd.C_alloc ?_ _))) HC1.out A3.out).mono ?_; rintro e w1 ⟨rfl, hb⟩; have HB1 := A_ (below_step (by repeat (first | exact HB.out | apply below_alloc)) hb); have HS1 := A_ (show w.heap.size + 2 ≤ w1.heap.size by have := hb.size; simp at this; omega); have hL1 : w1.cell? ⟨w.heap.size, 0, none⟩ = some (.slice (some ad) l1.length c1) := (hb.cell (p := ⟨w.heap.size, 0, none⟩) (by simp; omega)).trans (by simp); have hT1 : w1.cell? ⟨w.heap.size + 1, 0, none⟩ = some (.int .i64 a2) := (hb.cell (p := ⟨w.heap.size + 1, 0, none⟩) (by simp)).trans (by simp); clear hb) | (go_at_call 43; refine (impl_isRunTime.calls a2 true _ A4.out).mono ?_; rintro e w' ⟨rfl, ⟨nd, rfl⟩⟩) | ((with_reducible refine gate_dst (N := 21) rfl ?_); refine Kd.R_make (Kd.int .i64) _ 3 rfl (N := 21) rfl 27 _ _ rfl (l1.length : Int) rfl rfl Tryz.underlying27 (.int .i64 0) 8 info3 rfl (by decide) (by omega) (0 : Int) (ok := fun _ => True) (okp := fun _ => True) rfl (fun _ hk => hk) trivial (Int.natCast_nonneg _) (by have := HLEN.out; omega) (Below.refl _ _) (Nat.le_refl _) ?_; intro v wb ho hb hg_ hnew_; clear hg_ hnew_; obtain ⟨g, cap, e0, hg1, hg2, -⟩ := Kd.R_form ho (by rw [List.length_replicate]; have := HLEN.out; omega); replace e0 : v = .slice (some ⟨g, 0, none⟩) l1.length cap := (by simpa using e0); subst e0; have HO := A_ (show Kd.R (Kd.int .i64) 3 wb (w1.drewN nd).heap.size (fun _ => True) (.slice (some ⟨g, 0, none⟩) l1.length cap) (List.replicate l1.length 0) from ho); have HBb := A_ hb; have HG := A_ hg1; clear ho hb hg1 hg2))
   go_loopg [24] l1.length (fun gg v24 w' => ∃ i : Nat, v24 = .int .i64 i ∧ Aside0 (i ≤ l1.length) ∧ Aside0 (l1.length - i ≤ gg) ∧ Aside0 (Kd.R (Kd.int .i64) 3 w' (w1.drewN nd).heap.size (fun _ => True) (.slice (some ⟨g, 0, none⟩) l1.length cap) ((List.range i).map (fun (i : Nat) => (i : Int)) ++ List.replicate (l1.length - i) 0)) ∧ Aside0 (Below (w1.drewN nd).heap.size (w1.drewN nd) w'))
   case atStart => exact ⟨0, rfl, ⟨Nat.zero_le _⟩, ⟨by omega⟩, ⟨by rw [up_start]; exact HO.out⟩, ⟨HBb.out⟩⟩
   case round =>
    obtain ⟨i, rfl, HI, HGG, HOi, HBi⟩ := hrel
    by_cases c : (i : Int) < (l1.length : Int)
    ·
     have cb : decide ((i : Int) < (l1.length : Int)) = true := decide_eq_true c
     have p1 : 0 ≤ (i : Int) := Int.natCast_nonneg _
     obtain ⟨hx, hf⟩ := Kd.R_celln (0 : Int) HOi.out (i : Int) p1 c
     have HP := A_ (Kd.R_putg HOi.out (i : Int) (i : Int))
     have C := A_ c
     replace p1 := eq_true p1
     replace c := eq_true c
     rw [Int.toNat_natCast] at hx hf
     go_wp2
     go_roundg (l1.length - (i + 1))
     case measure =>
      have := C.out
      have := HGG.out
      omega
     case rel =>
      have h1 := C.out
      have h2 := HLEN.out
      have e1 : wrap64 ((i : Int) + 1) = ((i + 1 : Nat) : Int) := by unfold wrap64; omega
      obtain ⟨hp1, hp2⟩ := HP.out
      rw [Int.toNat_natCast, up_step l1.length i (by omega)] at hp1
      rw [Int.toNat_natCast] at hp2
      exact ⟨i + 1, by rw [e1], ⟨by omega⟩, ⟨Nat.le_refl _⟩, ⟨hp1⟩, ⟨HBi.out.grown hp2 HBi.out.size (fun k hk => by cases hk; exact HG.out)⟩⟩
    ·
     have cb : decide ((i : Int) < (l1.length : Int)) = false := decide_eq_false c
     have e : i = l1.length := by have := HI.out; omega
     subst e
     have hS := HS1.out
     have hLW := HLEN.out
     have hAW := HAD.out
     have hL2 : wr.cell? ⟨w.heap.size, 0, none⟩ = some (.slice (some ad) l1.length c1) := (HBi.out.cell (p := ⟨w.heap.size, 0, none⟩) (by simp; omega)).trans (by simpa using hL1)
     have hT2 : wr.cell? ⟨w.heap.size + 1, 0, none⟩ = some (.int .i64 a2) := (HBi.out.cell (p := ⟨w.heap.size + 1, 0, none⟩) (by simp; omega)).trans (by simpa using hT1)
     have HBd := A_ (show Below w.heap.size w (w1.drewN nd) by apply pw_below_drewN; exact HB1.out)
     have hw1 : (w1.drewN nd).heap.size = w1.heap.size := rfl
     have hC2 : Kd.C k35 wr (some ad) l1.length l1 := Kd.C_below HR1.out ((HBd.out.trans (HBi.out.mono (show w.heap.size ≤ (w1.drewN nd).heap.size by rw [hw1]; omega))))
     have hR2 : Kd.R (Kd.int .i64) 3 wr (w1.drewN nd).heap.size (fun _ => True) (.slice (some ⟨g, 0, none⟩) l1.length cap) (upN l1.length) := by rw [← up_end]; exact HOi.out
     have HS := A_ (ord_R (c1 := c1) (bL := w.heap.size) (bT := w.heap.size + 1) hR2 hLW HBi.out.size (by omega) (by omega) (by omega) hL2 hT2 hC2)
     clear hS hLW hAW hw1 hC2 hR2 c
     go_wp2_with (go_at_call 44; refine HS.out.mono ?_; rintro e w2 ⟨rfl, hr2, hb2⟩; have HR2 := A_ hr2; have HB2 := A_ hb2; clear hr2 hb2)
     go_ret2
     have hle : w.heap.size ≤ (w1.drewN nd).heap.size := by have := HS1.out; simp; omega
     exact ⟨_, by rw [Hr.out.2]; rfl, by rw [Hr.out.1]; exact Kd.R_lower HR2.out hle, (HBd.out.trans (HBi.out.mono hle)).trans (HB2.out.mono hle)⟩

/-! ### spec_l1In: function 67 -/
def spec_l1In.f (a0 : Int) (a1 : Int) (a2 : Int) : Option (Bool) := if a0 ≥ a1 then (some (decide (a0 ≤ a2))) else (some false)
set_option maxHeartbeats 8000000 in
set_option maxRecDepth 100000 in
theorem spec_l1In.calls (a0 : Int) (a1 : Int) (a2 : Int) (r : Bool) (w : World) (h : spec_l1In.f a0 a1 a2 = some r) :
  Calls Tryz.prog 67 #[.int .i64 a0, .int .i64 a1, .int .i64 a2] w fun e w' => e = .returned (.bool r) ∧ Drawn0 w w' := by
 have H : (if a0 ≥ a1 then (some (decide (a0 ≤ a2))) else (some false)) = some r := h
 clear h
 by_cases c4 : a0 ≥ a1
 ·
  rw [if_pos c4] at H
  replace c4 := decide_eq_true (ge_iff_le.mp c4)
  obtain rfl := Option.some.inj H
  go_enter Tryz.func67, Tryz.ntmps67
  go_wp2
  go_ret
  exact ⟨rs_, by repeat (first | exact Drawn0.refl _ | apply Drawn0.step)⟩
 ·
  rw [if_neg c4] at H
  replace c4 := decide_eq_false (mt ge_iff_le.mpr c4)
  obtain rfl := Option.some.inj H
  go_enter Tryz.func67, Tryz.ntmps67
  go_wp2
  go_ret
  exact ⟨rs_, by repeat (first | exact Drawn0.refl _ | apply Drawn0.step)⟩

/-! ### spec_trLap: function 89 -/
def spec_trLap.f (a0 : Int) : Option (Bool) := (spec_l1In.f a0 2 1000).bind fun t199 => (some t199)
set_option maxHeartbeats 8000000 in
set_option maxRecDepth 100000 in
theorem spec_trLap.calls (a0 : Int) (r : Bool) (w : World) (h : spec_trLap.f a0 = some r) :
  Calls Tryz.prog 89 #[.int .i64 a0] w fun e w' => e = .returned (.bool r) ∧ Drawn0 w w' := by
 have H : ((spec_l1In.f a0 2 1000).bind fun t199 => (some t199)) = some r := h
 clear h
 replace H := Option.bind_eq_some_iff.mp H
 obtain ⟨t199, A20, H⟩ := H
 replace H : (some t199) = some r := H
 have A2 := A_ A20
 clear A20
 obtain rfl := Option.some.inj H
 go_enter Tryz.func89, Tryz.ntmps89
 go_wp2_with (first | ((with_reducible refine gate_callee (f := 67) rfl ?_); refine gl_ (some 4) Tryz.func67 #[.int .i64 a0, .int .i64 2, .int .i64 1000] ?_; (with_reducible refine (spec_l1In.calls a0 2 1000 t199 _ A2.out).mono ?_); rintro e w' ⟨rfl, ⟨nd, rfl⟩⟩; refine ⟨_, rfl, ?_⟩))
 go_ret
 exact ⟨rs_, by repeat (first | exact Drawn0.refl _ | apply Drawn0.step)⟩

/-! ### spec_trRunner: function 54 -/
def spec_trRunner.f (a0 : Int) (a1_0 : Int) (a1_1 : Int) : Option (Bool) := (spec_trLap.f a0).bind fun t201 => (if t201 = true then ((spec_l1In.f a1_0 0 (wrap64 (a0 - 1))).bind fun t202 => (if t202 = true then ((spec_l1In.f a1_1 1 100).bind fun t203 => (some t203)) else (some false))) else (some false))
set_option maxHeartbeats 8000000 in
set_option maxRecDepth 100000 in
theorem spec_trRunner.calls (a0 : Int) (a1_0 : Int) (a1_1 : Int) (r : Bool) (w : World) (h : spec_trRunner.f a0 a1_0 a1_1 = some r) :
  Calls Tryz.prog 54 #[.int .i64 a0, .agg #[.int .i64 a1_0, .int .i64 a1_1]] w fun e w' => e = .returned (.bool r) ∧ Below w.heap.size w w' := by
 have hu35 := Tryz.underlying35
 have HB := A_ (Below.refl w.heap.size w)
 have H := h
 unfold spec_trRunner.f at H
 clear h
 replace H := ob_ H
 obtain ⟨t201, A3, H⟩ := H
 (try dsimp only at H)
 by_cases c4 : t201 = true
 ·
  subst c4
  rw [if_pos rfl] at H
  replace H := ob_ H
  obtain ⟨t202, A5, H⟩ := H
  (try dsimp only at H)
  by_cases c6 : t202 = true
  ·
   subst c6
   rw [if_pos rfl] at H
   replace H := Option.bind_eq_some_iff.mp H
   obtain ⟨t203, A70, H⟩ := H
   replace H : (some t203) = some r := H
   have A7 := A_ A70
   clear A70
   obtain rfl := Option.some.inj H
   go_enter Tryz.func54, Tryz.ntmps54
   go_wp2_with (first | ((with_reducible refine gate_dst (N := 3) rfl ?_); refine be_ 3 #[.int .i64 a1_0, .int .i64 a1_1] 35 ?_; intro gb200 hg w8 hbox hb; have BK200 := A_ hbox; have GW200 := A_ (bz_ (w := w) hg); have GE200 := A_ (bz_ (w := w) hg); replace HB := A_ (below_step bw_ hb); clear hb hbox hg) | ((with_reducible refine gate_callee (f := 89) rfl ?_); refine gl_ (some 6) Tryz.func89 #[.int .i64 a0] ?_; (with_reducible refine (spec_trLap.calls a0 true _ A3.out).mono ?_); rintro e w' ⟨rfl, ⟨nd, rfl⟩⟩; refine ⟨_, rfl, ?_⟩; have hcz9_0 := hz_ BK200.out 0 (.int .i64 a1_0); have hcz9_1 := hz_ BK200.out 1 (.int .i64 a1_1); have hfz9_0 := blk_frozen BK200.out 0; have hfz9_1 := blk_frozen BK200.out 1) | (go_at_call 67; (with_reducible refine (spec_l1In.calls a1_0 0 (wrap64 (a0 - 1)) true _ A5.out).mono ?_); rintro e w' ⟨rfl, ⟨nd, rfl⟩⟩) | (go_at_call 67; (with_reducible refine (spec_l1In.calls a1_1 1 100 t203 _ A7.out).mono ?_); rintro e w' ⟨rfl, ⟨nd, rfl⟩⟩))
   go_ret
   exact ⟨rt_, bw_⟩
  ·
   replace c6 := Bool.eq_false_iff.mpr c6
   subst c6
   rw [if_neg (show ¬ (false = true) by decide)] at H
   obtain rfl := Option.some.inj H
   go_enter Tryz.func54, Tryz.ntmps54
   go_wp2_with (first | ((with_reducible refine gate_dst (N := 3) rfl ?_); refine be_ 3 #[.int .i64 a1_0, .int .i64 a1_1] 35 ?_; intro gb200 hg w10 hbox hb; have BK200 := A_ hbox; have GW200 := A_ (bz_ (w := w) hg); have GE200 := A_ (bz_ (w := w) hg); replace HB := A_ (below_step bw_ hb); clear hb hbox hg) | ((with_reducible refine gate_callee (f := 89) rfl ?_); refine gl_ (some 6) Tryz.func89 #[.int .i64 a0] ?_; (with_reducible refine (spec_trLap.calls a0 true _ A3.out).mono ?_); rintro e w' ⟨rfl, ⟨nd, rfl⟩⟩; refine ⟨_, rfl, ?_⟩; have hcz11_0 := hz_ BK200.out 0 (.int .i64 a1_0); have hcz11_1 := hz_ BK200.out 1 (.int .i64 a1_1); have hfz11_0 := blk_frozen BK200.out 0; have hfz11_1 := blk_frozen BK200.out 1) | (go_at_call 67; (with_reducible refine (spec_l1In.calls a1_0 0 (wrap64 (a0 - 1)) false _ A5.out).mono ?_); rintro e w' ⟨rfl, ⟨nd, rfl⟩⟩))
   go_ret
   exact ⟨rt_, bw_⟩
 ·
  replace c4 := Bool.eq_false_iff.mpr c4
  subst c4
  rw [if_neg (show ¬ (false = true) by decide)] at H
  obtain rfl := Option.some.inj H
  go_enter Tryz.func54, Tryz.ntmps54
  go_wp2_with (first | ((with_reducible refine gate_dst (N := 3) rfl ?_); refine be_ 3 #[.int .i64 a1_0, .int .i64 a1_1] 35 ?_; intro gb200 hg w12 hbox hb; have BK200 := A_ hbox; have GW200 := A_ (bz_ (w := w) hg); have GE200 := A_ (bz_ (w := w) hg); replace HB := A_ (below_step bw_ hb); clear hb hbox hg) | ((with_reducible refine gate_callee (f := 89) rfl ?_); refine gl_ (some 6) Tryz.func89 #[.int .i64 a0] ?_; (with_reducible refine (spec_trLap.calls a0 false _ A3.out).mono ?_); rintro e w' ⟨rfl, ⟨nd, rfl⟩⟩; refine ⟨_, rfl, ?_⟩))
  go_ret
  exact ⟨rt_, bw_⟩

/-! ### spec_trList: function 48 -/
def spec_trList.l0 : Nat → Int → List (S35) → Int → Int → Option (Bool)
  | 0, _, _, _, _ => none
  | k + 1, x0, x11, x12, x13 => if x13 < x12 then (if 0 ≤ x13 then (if x13 < (x11.length : Int) then ((spec_trRunner.f x0 ((rd_T35 x11 x13).f0) ((rd_T35 x11 x13).f1)).bind fun t207 => (if t207 = true then (spec_trList.l0 k x0 x11 x12 (wrap64 (x13 + 1))) else (some false))) else (none)) else (none)) else (some true)
def spec_trList.f (k : Nat) (a0 : Int) (l1 : List (S35)) : Option (Bool) := (spec_l1In.f (l1.length : Int) 1 6).bind fun t204 => (if t204 = true then (spec_trList.l0 k a0 l1 (l1.length : Int) 0) else (some false))


set_option maxHeartbeats 8000000 in
set_option maxRecDepth 100000 in
theorem spec_trList.calls (k : Nat) (a0 : Int) (A1 : Option Addr) (c1 : Nat) (l1 : List (S35)) (r : Bool) (w : World) (hr1 : Kd.C k35 w A1 l1.length l1) (hc1 : l1.length ≤ c1) (h : spec_trList.f k a0 l1 = some r) :
  Calls Tryz.prog 48 #[.int .i64 a0, .slice A1 l1.length c1] w fun e w' => e = .returned (.bool r) ∧ Below w.heap.size w w' := by
 have hu35 := Tryz.underlying35
 have HR1 := A_ hr1
 have HC1 := A_ hc1
 clear hr1 hc1
 have HB := A_ (Below.refl w.heap.size w)
 have H := h
 unfold spec_trList.f at H
 clear h
 replace H := ob_ H
 obtain ⟨t204, A3, H⟩ := H
 (try dsimp only at H)
 by_cases c4 : t204 = true
 ·
  subst c4
  rw [if_pos rfl] at H
  have H' := A_ H
  clear H
  go_enter Tryz.func48, Tryz.ntmps48
  go_wp2_with (first | ((with_reducible refine gate_callee (f := 67) rfl ?_); refine gl_ (some 9) Tryz.func67 #[.int .i64 (l1.length : Int), .int .i64 1, .int .i64 6] ?_; (with_reducible refine (spec_l1In.calls (l1.length : Int) 1 6 true _ A3.out).mono ?_); rintro e w' ⟨rfl, ⟨nd, rfl⟩⟩; refine ⟨_, rfl, ?_⟩))
  go_loopg [13] k (fun kq v13 w' => ∃ (x13_1 : Int), v13 = .int .i64 x13_1 ∧ Aside0 (spec_trList.l0 kq a0 l1 (l1.length : Int) x13_1 = some r) ∧ Aside0 (kq ≤ k) ∧ Aside0 (Below w.heap.size w w'))
  case atStart => exact ⟨(0), (rs_), H', ⟨Nat.le_refl _⟩, ⟨bw_⟩⟩
  case round =>
   clear H'
   try clear c1
   try clear p2
   try clear c4
   obtain ⟨x13_1, rfl, HA, HK1, HB⟩ := hrel
   cases gk with
      | zero => exact absurd HA.out (by simp [spec_trList.l0])
      | succ k1 =>
    have H := HA.out
    clear HA
    simp only [spec_trList.l0] at H
    by_cases c5 : x13_1 < (l1.length : Int)
    ·
     rw [if_pos c5] at H
     replace c5 := decide_eq_true c5
     by_cases c6 : 0 ≤ x13_1
     ·
      rw [if_pos c6] at H
      replace c6 := decide_eq_true c6
      by_cases c7 : x13_1 < (l1.length : Int)
      ·
       rw [if_pos c7] at H
       replace c7 := decide_eq_true c7
       replace H := ob_ H
       obtain ⟨t207, A8, H⟩ := H
       (try dsimp only at H)
       by_cases c9 : t207 = true
       ·
        subst c9
        rw [if_pos rfl] at H
        have H' := A_ H
        clear H
        have p205 : 0 ≤ (x13_1 : Int) := of_decide_eq_true (by first | (with_reducible assumption) | assumption)
        have q205 : x13_1 < (l1.length : Int) := of_decide_eq_true (by first | (with_reducible assumption) | assumption)
        obtain ⟨ad205, e205, hx205_0, hx205_1⟩ := at_T35 HR1.out x13_1 p205 q205
        cases e205
        replace hx205_0 := (HB.out.cell (World.block_lt_of_cell? w _ hx205_0)).trans hx205_0
        replace hx205_1 := (HB.out.cell (World.block_lt_of_cell? w _ hx205_1)).trans hx205_1
        replace p205 := eq_true p205
        replace q205 := eq_true q205
        go_wp2_with (first | ((with_reducible refine gate_dst (N := 6) rfl ?_); refine be_ 6 #[.int .i64 0, .int .i64 0] 35 ?_; intro gb206 hg w10 hbox hb; have BK206 := A_ hbox; have GW206 := A_ (bz_ (w := w) hg); have GE206 := A_ (bz_ (w := w) hg); replace HB := A_ (below_step bw_ hb); clear hb hbox hg; have hcz11_0 := hz_ BK206.out 0 (.int .i64 0); have hcz11_1 := hz_ BK206.out 1 (.int .i64 0); have hfz11_0 := blk_frozen BK206.out 0; have hfz11_1 := blk_frozen BK206.out 1) | ((with_reducible refine gate_callee (f := 54) rfl ?_); refine gl_ (some 19) Tryz.func54 #[.int .i64 a0, .agg #[.int .i64 ((rd_T35 l1 x13_1).f0), .int .i64 ((rd_T35 l1 x13_1).f1)]] ?_; (with_reducible refine (spec_trRunner.calls a0 ((rd_T35 l1 x13_1).f0) ((rd_T35 l1 x13_1).f1) true _ A8.out).mono ?_); rintro e w12 ⟨rfl, hb⟩; refine ⟨_, rfl, ?_⟩; replace HB := A_ (below_step bw_ hb); replace BK206 := A_ (blk_below (g := gb206) (o := .cells #[.int .i64 ((rd_T35 l1 x13_1).f0), .int .i64 ((rd_T35 l1 x13_1).f1)] 35 (0, 0)) (by (with_reducible repeat (first | refine blk_drewN ?_ _ | refine blk_drew ?_ | refine blk_alloc ?_ _)); refine blk_put (cs := #[.int .i64 ((rd_T35 l1 x13_1).f0), .int .i64 0]) ?_ 1 _ rfl; (with_reducible repeat (first | refine blk_drewN ?_ _ | refine blk_drew ?_ | refine blk_alloc ?_ _)); refine blk_put (cs := #[.int .i64 0, .int .i64 0]) ?_ 0 _ rfl; (with_reducible repeat (first | refine blk_drewN ?_ _ | refine blk_drew ?_ | refine blk_alloc ?_ _)); exact BK206.out) hb); (try clear hb)))
        go_roundg k1
        case measure => have := HK1.out; omega
        case rel => exact ⟨(wrap64 (x13_1 + 1)), (rs_), H', ⟨by have := HK1.out; omega⟩, ⟨bw_⟩⟩
       ·
        replace c9 := Bool.eq_false_iff.mpr c9
        subst c9
        rw [if_neg (show ¬ (false = true) by decide)] at H
        obtain rfl := Option.some.inj H
        have p205 : 0 ≤ (x13_1 : Int) := of_decide_eq_true (by first | (with_reducible assumption) | assumption)
        have q205 : x13_1 < (l1.length : Int) := of_decide_eq_true (by first | (with_reducible assumption) | assumption)
        obtain ⟨ad205, e205, hx205_0, hx205_1⟩ := at_T35 HR1.out x13_1 p205 q205
        cases e205
        replace hx205_0 := (HB.out.cell (World.block_lt_of_cell? w _ hx205_0)).trans hx205_0
        replace hx205_1 := (HB.out.cell (World.block_lt_of_cell? w _ hx205_1)).trans hx205_1
        replace p205 := eq_true p205
        replace q205 := eq_true q205
        go_wp2_with (first | ((with_reducible refine gate_dst (N := 6) rfl ?_); refine be_ 6 #[.int .i64 0, .int .i64 0] 35 ?_; intro gb206 hg w13 hbox hb; have BK206 := A_ hbox; have GW206 := A_ (bz_ (w := w) hg); have GE206 := A_ (bz_ (w := w) hg); replace HB := A_ (below_step bw_ hb); clear hb hbox hg; have hcz14_0 := hz_ BK206.out 0 (.int .i64 0); have hcz14_1 := hz_ BK206.out 1 (.int .i64 0); have hfz14_0 := blk_frozen BK206.out 0; have hfz14_1 := blk_frozen BK206.out 1) | ((with_reducible refine gate_callee (f := 54) rfl ?_); refine gl_ (some 19) Tryz.func54 #[.int .i64 a0, .agg #[.int .i64 ((rd_T35 l1 x13_1).f0), .int .i64 ((rd_T35 l1 x13_1).f1)]] ?_; (with_reducible refine (spec_trRunner.calls a0 ((rd_T35 l1 x13_1).f0) ((rd_T35 l1 x13_1).f1) false _ A8.out).mono ?_); rintro e w15 ⟨rfl, hb⟩; refine ⟨_, rfl, ?_⟩; replace HB := A_ (below_step bw_ hb); replace BK206 := A_ (blk_below (g := gb206) (o := .cells #[.int .i64 ((rd_T35 l1 x13_1).f0), .int .i64 ((rd_T35 l1 x13_1).f1)] 35 (0, 0)) (by (with_reducible repeat (first | refine blk_drewN ?_ _ | refine blk_drew ?_ | refine blk_alloc ?_ _)); refine blk_put (cs := #[.int .i64 ((rd_T35 l1 x13_1).f0), .int .i64 0]) ?_ 1 _ rfl; (with_reducible repeat (first | refine blk_drewN ?_ _ | refine blk_drew ?_ | refine blk_alloc ?_ _)); refine blk_put (cs := #[.int .i64 0, .int .i64 0]) ?_ 0 _ rfl; (with_reducible repeat (first | refine blk_drewN ?_ _ | refine blk_drew ?_ | refine blk_alloc ?_ _)); exact BK206.out) hb); (try clear hb)))
        go_ret
        exact ⟨rt_, bw_⟩
      ·
       rw [if_neg c7] at H
       exact absurd H (by simp)
     ·
      rw [if_neg c6] at H
      exact absurd H (by simp)
    ·
     rw [if_neg c5] at H
     replace c5 := decide_eq_false c5
     obtain rfl := Option.some.inj H
     go_wp2
     go_ret
     exact ⟨rt_, bw_⟩
 ·
  replace c4 := Bool.eq_false_iff.mpr c4
  subst c4
  rw [if_neg (show ¬ (false = true) by decide)] at H
  obtain rfl := Option.some.inj H
  go_enter Tryz.func48, Tryz.ntmps48
  go_wp2_with (first | ((with_reducible refine gate_callee (f := 67) rfl ?_); refine gl_ (some 9) Tryz.func67 #[.int .i64 (l1.length : Int), .int .i64 1, .int .i64 6] ?_; (with_reducible refine (spec_l1In.calls (l1.length : Int) 1 6 false _ A3.out).mono ?_); rintro e w' ⟨rfl, ⟨nd, rfl⟩⟩; refine ⟨_, rfl, ?_⟩))
  go_ret
  exact ⟨rt_, bw_⟩

end Go.Proofs.YtfkieckkmcibbaaGreatDoor.PFnRunnersRun
