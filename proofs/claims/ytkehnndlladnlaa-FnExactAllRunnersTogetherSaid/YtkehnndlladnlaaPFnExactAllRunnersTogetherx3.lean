-- Laid by a program of this session's (wip/gen/printp.sh): the functions that the law reaches, each with its walk.
import Derived.Test.YtkehnndlladnlaaPFnExactAllRunnersTogetherx0
import Derived.Test.YtkehnndlladnlaaPFnExactAllRunnersTogetherx1
import Derived.Test.YtkehnndlladnlaaPFnExactAllRunnersTogetherx2
namespace Go.Proofs.Ytkehnndlladnlaa.PFnExactAllRunnersTogether
open Go.RowKit Go.Proofs.YtkehnndlladnlaaW.PrintWords Go.Proofs.YtkehnndlladnlaaW.PrintLast Go.Proofs.YtkehnndlladnlaaW.PrintMore
attribute [local go_sem] max2_int min2_int max_two min_two max_three min_three max_four min_four   -- for this text's walks alone
set_option linter.unusedVariables false
set_option linter.unusedSimpArgs false


/-! ### impl_AreRunners: function 18 -/
/-- where the first element lies of which p holds, else -1 -/
def idxOf (p : S26 → Bool) (l : List S26) : Int := if l.any p then (l.findIdx p : Int) else -1
theorem idxOf_nonneg (p : S26 → Bool) (l : List S26) : decide (0 ≤ idxOf p l) = l.any p := by
  unfold idxOf
  split
  · rename_i h
    rw [h]
    exact decide_eq_true (Int.natCast_nonneg _)
  · rename_i h
    rw [Bool.not_eq_true] at h
    rw [h]
    rfl
theorem idxOf_hit (p : S26 → Bool) (l : List S26) (x : Int) (h0 : 0 ≤ x) (h1 : x < (l.length : Int)) (hp : p (rd_T26 l x) = true) (hn : ∀ j : Nat, (j : Int) < x → p (rd_T26 l j) = false) : idxOf p l = x := by
  obtain ⟨n, rfl⟩ := Int.eq_ofNat_of_zero_le h0
  have hlt : n < l.length := by omega
  have e : ∀ j : Nat, (hj : j < l.length) → rd_T26 l (j : Int) = l[j] := fun j hj => by simp [rd_T26, hj]
  have hany : l.any p = true := List.any_eq_true.mpr ⟨l[n], List.getElem_mem hlt, by rw [← e n hlt]; exact hp⟩
  unfold idxOf
  rw [if_pos hany]
  congr 1
  rw [List.findIdx_eq hlt]
  exact ⟨by rw [← e n hlt]; exact hp, fun j hj => by rw [← e j (by omega)]; simpa using hn j (by omega)⟩
theorem idxOf_miss (p : S26 → Bool) (l : List S26) (hn : ∀ j : Nat, (j : Int) < (l.length : Int) → p (rd_T26 l j) = false) : idxOf p l = -1 := by
  have e : ∀ j : Nat, (hj : j < l.length) → rd_T26 l (j : Int) = l[j] := fun j hj => by simp [rd_T26, hj]
  unfold idxOf
  rw [if_neg]
  intro h
  obtain ⟨y, hy, hp⟩ := List.any_eq_true.mp h
  obtain ⟨j, hj, rfl⟩ := List.mem_iff_getElem.mp hy
  have := hn j (by omega)
  rw [e j hj, hp] at this
  cases this
set_option maxHeartbeats 8000000 in
set_option maxRecDepth 100000 in
theorem IndexFunc_R (g : Nat) (lb : Array Value) (eg : ∀ args w, (Go.callFunc g args).run Try.prog w = .ok (.enter g args) w) (p : S26 → Bool) (A0 : Option Addr) (c0 : Nat) (l : List S26) (w : World)
    (hp : ∀ (W : World) (x : S26), Below w.heap.size w W → Calls Try.prog g (#[.agg #[.int .i64 x.f0, .int .i64 x.f1]] ++ lb) W fun e w' => e = .returned (.bool (p x)) ∧ Below W.heap.size W w')
    (hr0 : Kd.C k26 w A0 l.length l) (hc0 : l.length ≤ c0) :
    Calls Try.prog 72 #[.slice A0 l.length c0, .func (.func g) #[] lb] w fun e w' => e = .returned (.int .i64 (idxOf p l)) ∧ Below w.heap.size w w' := by
  have hu26 := Try.underlying26
  have HM := Aside0.mk (Kd.C_max hr0)
  have HR0 := Aside0.mk hr0
  have HC0 := Aside0.mk hc0
  have HP := Aside0.mk hp
  clear hr0 hc0 hp
  go_enter Try.func72, Try.ntmps72
  go_wp2
  go_loopg [5, 8] l.length (fun gg _ s8 wr => ∃ x : Int, s8 = .int .i64 x ∧ Aside0 (0 ≤ x) ∧ Aside0 (x ≤ (l.length : Int)) ∧ Aside0 ((l.length : Int) - x ≤ gg) ∧ Aside0 (Below w.heap.size w wr) ∧ Aside0 (∀ j : Nat, (j : Int) < x → p (rd_T26 l j) = false))
  case atStart => exact ⟨0, rfl, ⟨Int.le_refl 0⟩, ⟨Int.natCast_nonneg _⟩, ⟨by omega⟩, ⟨Below.refl _ w⟩, ⟨fun j hj => by omega⟩⟩
  case round =>
    obtain ⟨x, rfl, HX, HL, HG, HB, HA⟩ := hrel
    by_cases c5 : x < (l.length : Int)
    · have c5b0 : decide (x < (l.length : Int)) = true := decide_eq_true c5
      have c6b0 : decide (0 ≤ x) = true := decide_eq_true HX.out
      have C5 := Aside0.mk c5
      have p107 : 0 ≤ (x : Int) := HX.out
      have q107 : x < (l.length : Int) := c5
      obtain ⟨ad107, e107, hx107_0, hx107_1⟩ := at_T26 HR0.out x p107 q107
      cases e107
      replace hx107_0 := (HB.out.cell (World.block_lt_of_cell? w _ hx107_0)).trans hx107_0
      replace hx107_1 := (HB.out.cell (World.block_lt_of_cell? w _ hx107_1)).trans hx107_1
      have hcall := HP.out wr (rd_T26 l x) HB.out
      clear c5
      replace p107 := eq_true p107
      replace q107 := eq_true q107
      cases hq : p (rd_T26 l x) with
      | true =>
        rw [hq] at hcall
        have HQ := Aside0.mk hq
        clear hq
        go_wp2_with (go_at_fn g; refine hcall.mono ?_; rintro e w' ⟨rfl, hb⟩)
        go_ret
        exact ⟨by rw [idxOf_hit p l x HX.out C5.out HQ.out HA.out]; rfl, below_step HB.out hb⟩
      | false =>
        rw [hq] at hcall
        have HQ := Aside0.mk hq
        clear hq
        go_wp2_with (go_at_fn g; refine hcall.mono ?_; rintro e w' ⟨rfl, hb⟩)
        go_roundg (l.length - (x + 1).toNat)
        case measure =>
          have := C5.out
          have := HX.out
          have := HG.out
          omega
        case rel =>
          have h1 := C5.out
          have h2 := HX.out
          have h3 := HM.out
          have e1 : wrap64 (x + 1) = x + 1 := by unfold wrap64; omega
          refine ⟨x + 1, (by first | rfl | rw [e1] | (simp [e1]; done)), ⟨by omega⟩, ⟨by omega⟩, ⟨by omega⟩, ⟨below_step HB.out hb⟩, ⟨fun j hj => ?_⟩⟩
          by_cases e : (j : Int) = x
          · rw [e]
            exact HQ.out
          · exact HA.out j (by omega)
    · have c5b0 : decide (x < (l.length : Int)) = false := decide_eq_false c5
      have C5 := Aside0.mk c5
      clear c5
      go_wp2
      go_ret
      exact ⟨by rw [idxOf_miss p l (fun j hj => HA.out j (by have := C5.out; omega))]; rfl, HB.out⟩
set_option maxHeartbeats 8000000 in
set_option maxRecDepth 100000 in
theorem ContainsFunc_R (g : Nat) (lb : Array Value) (eg : ∀ args w, (Go.callFunc g args).run Try.prog w = .ok (.enter g args) w) (p : S26 → Bool) (A0 : Option Addr) (c0 : Nat) (l : List S26) (w : World)
    (hp : ∀ (W : World) (x : S26), Below w.heap.size w W → Calls Try.prog g (#[.agg #[.int .i64 x.f0, .int .i64 x.f1]] ++ lb) W fun e w' => e = .returned (.bool (p x)) ∧ Below W.heap.size W w')
    (hr0 : Kd.C k26 w A0 l.length l) (hc0 : l.length ≤ c0) :
    Calls Try.prog 51 #[.slice A0 l.length c0, .func (.func g) #[] lb] w fun e w' => e = .returned (.bool (l.any p)) ∧ Below w.heap.size w w' := by
  have HC := Aside0.mk (IndexFunc_R g lb eg p A0 c0 l w hp hr0 hc0)
  have HI := Aside0.mk (idxOf_nonneg p l)
  clear hr0 hc0 hp eg
  go_enter Try.func51, Try.ntmps51
  go_wp2_with (go_at_call 72; refine HC.out.mono ?_; rintro e w' ⟨rfl, hb⟩)
  go_ret
  exact ⟨by rw [← HI.out]; rfl, hb⟩
theorem within_total (a b c : Int) : ∃ r, impl_within.f a b c = some r := by
  unfold impl_within.f
  split <;> exact ⟨_, rfl⟩
theorem isRunner_total (a b c : Int) : ∃ r, impl_isRunner.f a b c = some r := by
  obtain ⟨r1, h1⟩ := within_total b 0 (wrap64 (a - 1))
  obtain ⟨r2, h2⟩ := within_total c 1 100
  unfold impl_isRunner.f
  rw [h1]
  cases r1
  · exact ⟨false, rfl⟩
  · exact ⟨r2, by simp [h2]⟩
/-- no runner of a track -/
def noRun (a : Int) (x : S26) : Bool := !((impl_isRunner.f a x.f0 x.f1).getD false)
set_option maxHeartbeats 8000000 in
set_option maxRecDepth 100000 in
theorem clos52 (a : Int) (B : Nat) (w : World) (hB : B < w.heap.size) (hc : w.cell? ⟨B, 0, none⟩ = some (.int .i64 a)) (W : World) (x : S26) (hb : Below w.heap.size w W) :
    Calls Try.prog 52 (#[.agg #[.int .i64 x.f0, .int .i64 x.f1]] ++ #[.pointer (some ⟨B, 0, none⟩)]) W fun e w' => e = .returned (.bool (noRun a x)) ∧ Below W.heap.size W w' := by
  have hcW := (hb.cell (p := ⟨B, 0, none⟩) hB).trans hc
  have hBW : B < W.heap.size := Nat.lt_of_lt_of_le hB hb.size
  clear hb hc hB
  obtain ⟨r, hr⟩ := isRunner_total a x.f0 x.f1
  have HR := Aside0.mk hr
  have HN := Aside0.mk (show noRun a x = !r by unfold noRun; rw [hr]; rfl)
  clear hr
  go_enter Try.func52, Try.ntmps52
  go_wp2_with (go_at_call 53; refine (impl_isRunner.calls a x.f0 x.f1 r _ HR.out).mono ?_; rintro e w' ⟨rfl, hb⟩)
  go_ret
  exact ⟨by rw [HN.out]; rfl, by first | exact hb | exact below_step (below_alloc (Below.refl _ _) _) hb⟩
def impl_AreRunners.f (a0 : Int) (l1 : List (S26)) : Option (Bool) := (impl_within.f a0 2 1000).bind fun t1 => (if t1 = true then ((impl_within.f (l1.length : Int) 1 6).bind fun t2 => (if t2 = true then (some (!(l1.any (noRun a0)))) else (some false))) else (some false))
set_option maxHeartbeats 8000000 in
set_option maxRecDepth 100000 in
theorem impl_AreRunners.calls (a0 : Int) (A1 : Option Addr) (c1 : Nat) (l1 : List (S26)) (r : Bool) (w : World) (hr1 : Kd.C k26 w A1 l1.length l1) (hc1 : l1.length ≤ c1) (h : impl_AreRunners.f a0 l1 = some r) :
    Calls Try.prog 18 #[.int .i64 a0, .slice A1 l1.length c1] w fun e w' => e = .returned (.bool r) ∧ Below w.heap.size w w' := by
  have H : ((impl_within.f a0 2 1000).bind fun t1 => (if t1 = true then ((impl_within.f (l1.length : Int) 1 6).bind fun t2 => (if t2 = true then (some (!(l1.any (noRun a0)))) else (some false))) else (some false))) = some r := h
  clear h
  have eg : ∀ args w, (Go.callFunc 52 args).run Try.prog w = .ok (.enter 52 args) w := enters_of Try.func52 (by kernel_rfl) rfl
  have HE := Aside0.mk eg
  have HR1 := Aside0.mk hr1
  have HC1 := Aside0.mk hc1
  clear hr1 hc1 eg
  replace H := Option.bind_eq_some_iff.mp H
  obtain ⟨t1, A30, H⟩ := H
  have A3 := Aside0.mk A30
  clear A30
  cases t1 with
  | false =>
    have Hr := Aside0.mk (show r = false by simpa using H.symm)
    clear H
    go_enter Try.func18, Try.ntmps18
    go_wp2_with (go_at_call 50; refine (impl_within.calls a0 2 1000 false _ A3.out).mono ?_; rintro e w' ⟨rfl, ⟨nd, rfl⟩⟩)
    go_ret
    exact ⟨by rw [Hr.out]; rfl, by repeat (first | exact Below.refl _ _ | apply below_alloc | apply pw_below_drewN | apply below_drew1)⟩
  | true =>
    replace H := Option.bind_eq_some_iff.mp (show ((impl_within.f (l1.length : Int) 1 6).bind fun t2 => (if t2 = true then (some (!(l1.any (noRun a0)))) else (some false))) = some r from H)
    obtain ⟨t2, A40, H⟩ := H
    have A4 := Aside0.mk A40
    clear A40
    cases t2 with
    | false =>
      have Hr := Aside0.mk (show r = false by simpa using H.symm)
      clear H
      go_enter Try.func18, Try.ntmps18
      go_wp2_with (first | (go_at_call 50; (with_reducible refine (impl_within.calls a0 2 1000 true _ A3.out).mono ?_); rintro e w' ⟨rfl, ⟨nd, rfl⟩⟩) | (go_at_call 50; (with_reducible refine (impl_within.calls (l1.length : Int) 1 6 false _ A4.out).mono ?_); rintro e w' ⟨rfl, ⟨nd2, rfl⟩⟩))
      go_ret
      exact ⟨by rw [Hr.out]; rfl, by repeat (first | exact Below.refl _ _ | apply below_alloc | apply pw_below_drewN | apply below_drew1)⟩
    | true =>
      have Hr := Aside0.mk (show r = !(l1.any (noRun a0)) by simpa using H.symm)
      clear H
      have HF := Aside0.mk (fun (W : World) (hW : Below w.heap.size w W) (hB : w.heap.size < W.heap.size) (hc : W.cell? ⟨w.heap.size, 0, none⟩ = some (.int .i64 a0)) => ContainsFunc_R 52 #[.pointer (some ⟨w.heap.size, 0, none⟩)] HE.out (noRun a0) A1 c1 l1 W (fun W' x hb => clos52 a0 w.heap.size W hB hc W' x hb) (Kd.C_below HR1.out hW) HC1.out)
      go_enter Try.func18, Try.ntmps18
      go_wp2_with (first | (go_at_call 50; (with_reducible refine (impl_within.calls a0 2 1000 true _ A3.out).mono ?_); rintro e w' ⟨rfl, ⟨nd, rfl⟩⟩) | (go_at_call 50; (with_reducible refine (impl_within.calls (l1.length : Int) 1 6 true _ A4.out).mono ?_); rintro e w' ⟨rfl, ⟨nd2, rfl⟩⟩) | (go_at_call 51; refine (HF.out _ (by repeat (first | exact Below.refl _ _ | apply below_alloc | apply pw_below_drewN | apply below_drew1)) (by simp) (by simp)).mono ?_; rintro e w' ⟨rfl, hb⟩))
      go_ret
      exact ⟨by rw [Hr.out]; rfl, below_step (by repeat (first | exact Below.refl _ _ | apply below_alloc | apply pw_below_drewN | apply below_drew1)) hb⟩

/-! ### impl_farAt: function 47 -/
def impl_farAt.f (a0_0 : Int) (a0_1 : Int) (a1 : Int) : Option (Int) := some (wrap64 (a0_0 + (wrap64 (a0_1 * a1))))
set_option maxHeartbeats 8000000 in
set_option maxRecDepth 100000 in
theorem impl_farAt.calls (a0_0 : Int) (a0_1 : Int) (a1 : Int) (r : Int) (w : World) (h : impl_farAt.f a0_0 a0_1 a1 = some r) :
    Calls Try.prog 47 #[.agg #[.int .i64 a0_0, .int .i64 a0_1], .int .i64 a1] w fun e w' => e = .returned (.int .i64 r) ∧ Below w.heap.size w w' := by
  have hu26 := Try.underlying26
  have HB := Aside0.mk (Below.refl w.heap.size w)
  have H : (some (wrap64 (a0_0 + (wrap64 (a0_1 * a1))))) = some r := h
  clear h
  obtain rfl := Option.some.inj H
  go_enter Try.func47, Try.ntmps47
  go_wp2_with (first | ((with_reducible refine gate_dst (N := 2) rfl ?_); refine box_event ?hg (N := 2) ?hd (cs := #[.int .i64 a0_0, .int .i64 a0_1]) (t := 26) ?hr ?_; (case hd => rfl); (case hg => rfl); (case hr => first | (go_simp; done) | (go_simp; rfl)); intro gb141 hg w3 hbox hb; have n0_ := Aside0.mk (below_step (by repeat (first | (with_reducible first | exact HB.out | apply below_alloc | apply pw_below_drewN | apply below_drew1) | exact HB.out)) hb); have n1_ := Aside0.mk (hbox); have n2_ := Aside0.mk ((by rw [hg]; exact (below_size (by repeat (first | (with_reducible first | exact HB.out | apply below_alloc | apply pw_below_drewN | apply below_drew1) | exact HB.out))) : w.heap.size ≤ gb141)); have n3_ := Aside0.mk ((by rw [hg]; exact (below_size (by repeat (first | (with_reducible first | exact HB.out | apply below_alloc | apply pw_below_drewN | apply below_drew1) | exact HB.out))) : w.heap.size ≤ gb141)); clear HB; have HB := n0_; have BK141 := n1_; have GW141 := n2_; have GE141 := n3_; clear n0_ n1_ n2_ n3_; clear hb hbox hg; have hcz4_0 : w3.cell? ⟨gb141, 0, none⟩ = some (.int .i64 a0_0) := (blk_cell BK141.out 0).trans rfl; have hcz4_1 : w3.cell? ⟨gb141, 1, none⟩ = some (.int .i64 a0_1) := (blk_cell BK141.out 1).trans rfl; have hfz4_0 := blk_frozen BK141.out 0; have hfz4_1 := blk_frozen BK141.out 1))
  go_ret
  exact ⟨by first | rfl | (simp [errW_none, errW_some] <;> rfl) | (simp [*, errW_none, errW_some] <;> rfl), by repeat (first | (with_reducible first | exact HB.out | apply below_alloc | apply pw_below_drewN | apply below_drew1 | refine below_set ?_ GE141.out) | exact HB.out)⟩


/-! ### impl_areTogether: function 57 -/
/-- the place of a runner -/
def spot (a t : Int) (x : S26) : Int := Int.tmod (wrap64 (x.f0 + (wrap64 (x.f1 * t)))) a
/-- what a region may read, kept by a call that lays blocks of its own -/
theorem held7 {W w1 w2 : World} {p0 p1 p2 p3 p4 p5 p6 : Addr} {v0 v1 v2 v3 v4 v5 v6 : Value}
    (h : w1.cell? p0 = some v0 ∧ w1.cell? p1 = some v1 ∧ w1.cell? p2 = some v2 ∧ w1.cell? p3 = some v3 ∧ w1.cell? p4 = some v4 ∧ w1.cell? p5 = some v5 ∧ w1.cell? p6 = some v6 ∧ Below W.heap.size W w1)
    (hb : Below w1.heap.size w1 w2) : w2.cell? p0 = some v0 ∧ w2.cell? p1 = some v1 ∧ w2.cell? p2 = some v2 ∧ w2.cell? p3 = some v3 ∧ w2.cell? p4 = some v4 ∧ w2.cell? p5 = some v5 ∧ w2.cell? p6 = some v6 ∧ Below W.heap.size W w2 := by
  obtain ⟨h0, h1, h2, h3, h4, h5, h6, h7⟩ := h
  exact ⟨(hb.cell (World.block_lt_of_cell? w1 _ h0)).trans h0, (hb.cell (World.block_lt_of_cell? w1 _ h1)).trans h1, (hb.cell (World.block_lt_of_cell? w1 _ h2)).trans h2, (hb.cell (World.block_lt_of_cell? w1 _ h3)).trans h3, (hb.cell (World.block_lt_of_cell? w1 _ h4)).trans h4, (hb.cell (World.block_lt_of_cell? w1 _ h5)).trans h5, (hb.cell (World.block_lt_of_cell? w1 _ h6)).trans h6, below_step h7 hb⟩
theorem held_last {p0 p1 p2 p3 p4 p5 p6 q : Prop} (h : p0 ∧ p1 ∧ p2 ∧ p3 ∧ p4 ∧ p5 ∧ p6 ∧ q) : q := h.2.2.2.2.2.2.2
set_option maxHeartbeats 8000000 in
set_option maxRecDepth 100000 in
theorem closTog (a t : Int) (ha : a ≠ 0) (B1 B2 B3 : Nat) (A0 : Option Addr) (c0 : Nat) (l : List S26) (hne : 0 < l.length) (w : World)
    (h1 : w.cell? ⟨B1, 0, none⟩ = some (.int .i64 t)) (h2 : w.cell? ⟨B2, 0, none⟩ = some (.int .i64 a)) (h3 : w.cell? ⟨B3, 0, none⟩ = some (.slice A0 l.length c0))
    (hr : Kd.C k26 w A0 l.length l) (W : World) (x : S26) (hb : Below w.heap.size w W) :
    Calls Try.prog 73 (#[.agg #[.int .i64 x.f0, .int .i64 x.f1]] ++ #[.pointer (some ⟨B1, 0, none⟩), .pointer (some ⟨B2, 0, none⟩), .pointer (some ⟨B3, 0, none⟩)]) W fun e w' => e = .returned (.bool (spot a t x != spot a t (rd_T26 l 0))) ∧ Below W.heap.size W w' := by
  have hu := Try.underlying26
  have g1 := (hb.cell (World.block_lt_of_cell? w _ h1)).trans h1
  have g2 := (hb.cell (World.block_lt_of_cell? w _ h2)).trans h2
  have g3 := (hb.cell (World.block_lt_of_cell? w _ h3)).trans h3
  obtain ⟨ad, e0, hx0, hx1⟩ := at_T26 hr 0 (Int.le_refl 0) (by omega)
  cases e0
  have g4 := (hb.cell (World.block_lt_of_cell? w _ hx0)).trans hx0
  have g5 := (hb.cell (World.block_lt_of_cell? w _ hx1)).trans hx1
  clear h1 h2 h3 hx0 hx1 hr hb
  simp only [Int.toNat_zero, Nat.zero_mul, Addr.add_zero'] at g4 g5
  have hy := rd_T26 l 0
  generalize rd_T26 l 0 = y at *
  have ha0 : (a == 0) = false := by simpa using ha
  have hl0 : ((0 : Int) < (l.length : Int)) = True := eq_true (by omega)
  have hl1 : (0 < l.length) = True := eq_true hne
  have F1 := Aside0.mk (show impl_farAt.f x.f0 x.f1 t = some (wrap64 (x.f0 + (wrap64 (x.f1 * t)))) from rfl)
  have F2 := Aside0.mk (show impl_farAt.f y.f0 y.f1 t = some (wrap64 (y.f0 + (wrap64 (y.f1 * t)))) from rfl)
  have HS := Aside0.mk (show (spot a t x != spot a t y) = (Int.tmod (wrap64 (x.f0 + (wrap64 (x.f1 * t)))) a != Int.tmod (wrap64 (y.f0 + (wrap64 (y.f1 * t)))) a) from rfl)
  generalize wrap64 (x.f0 + (wrap64 (x.f1 * t))) = fx at *
  generalize wrap64 (y.f0 + (wrap64 (y.f1 * t))) = fy at *
  go_enter Try.func73, Try.ntmps73
  go_wp2
  go_region_held3 (fun w' => w'.cell? ⟨W.heap.size, 0, none⟩ = some (.int .i64 x.f0) ∧ w'.cell? ⟨W.heap.size, 1, none⟩ = some (.int .i64 x.f1) ∧ w'.cell? ⟨B1, 0, none⟩ = some (.int .i64 t) ∧ w'.cell? ⟨B2, 0, none⟩ = some (.int .i64 a) ∧ w'.cell? ⟨B3, 0, none⟩ = some (.slice (some ad) l.length c0) ∧ w'.cell? ad = some (.int .i64 y.f0) ∧ w'.cell? ⟨ad.block, ad.off + 1, none⟩ = some (.int .i64 y.f1) ∧ Below W.heap.size W w')
    (first | exact held7 (by assumption) (by assumption) | exact held7 (by assumption) (below_drew1 (Below.refl _ _)) | (refine ⟨by (go_simp; done), by (go_simp; done), by first | exact ((below_drew1 (below_alloc (Below.refl _ _) _)).cell (World.block_lt_of_cell? W _ g1)).trans g1 | exact ((below_alloc (Below.refl _ _) _).cell (World.block_lt_of_cell? W _ g1)).trans g1, by first | exact ((below_drew1 (below_alloc (Below.refl _ _) _)).cell (World.block_lt_of_cell? W _ g2)).trans g2 | exact ((below_alloc (Below.refl _ _) _).cell (World.block_lt_of_cell? W _ g2)).trans g2, by first | exact ((below_drew1 (below_alloc (Below.refl _ _) _)).cell (World.block_lt_of_cell? W _ g3)).trans g3 | exact ((below_alloc (Below.refl _ _) _).cell (World.block_lt_of_cell? W _ g3)).trans g3, by first | exact ((below_drew1 (below_alloc (Below.refl _ _) _)).cell (World.block_lt_of_cell? W _ g4)).trans g4 | exact ((below_alloc (Below.refl _ _) _).cell (World.block_lt_of_cell? W _ g4)).trans g4, by first | exact ((below_drew1 (below_alloc (Below.refl _ _) _)).cell (World.block_lt_of_cell? W _ g5)).trans g5 | exact ((below_alloc (Below.refl _ _) _).cell (World.block_lt_of_cell? W _ g5)).trans g5, by repeat (first | exact Below.refl _ _ | apply below_alloc | apply pw_below_drewN | apply below_drew1)⟩) | go_keep)
    (first | (go_at_call 47; (with_reducible refine (impl_farAt.calls x.f0 x.f1 t fx _ F1.out).mono ?_); rintro e w' ⟨rfl, hbc⟩) | (go_at_call 47; (with_reducible refine (impl_farAt.calls y.f0 y.f1 t fy _ F2.out).mono ?_); rintro e w' ⟨rfl, hbc⟩))
  all_goals
    go_wp2
    go_ret
    exact ⟨by rw [HS.out]; first | rfl | simp, held_last (by assumption)⟩
def impl_areTogether.f (a0 : Int) (a1 : Int) (l2 : List (S26)) : Option (Bool) := if a0 = 0 then (none) else (if 0 < l2.length then (some (!(l2.any fun x => spot a0 a1 x != spot a0 a1 (rd_T26 l2 0)))) else (none))
set_option maxHeartbeats 8000000 in
set_option maxRecDepth 100000 in
theorem impl_areTogether.calls (a0 : Int) (a1 : Int) (A2 : Option Addr) (c2 : Nat) (l2 : List (S26)) (r : Bool) (w : World) (hr2 : Kd.C k26 w A2 l2.length l2) (hc2 : l2.length ≤ c2) (h : impl_areTogether.f a0 a1 l2 = some r) :
    Calls Try.prog 57 #[.int .i64 a0, .int .i64 a1, .slice A2 l2.length c2] w fun e w' => e = .returned (.bool r) ∧ Below w.heap.size w w' := by
  have H : (if a0 = 0 then (none) else (if 0 < l2.length then (some (!(l2.any fun x => spot a0 a1 x != spot a0 a1 (rd_T26 l2 0)))) else (none))) = some r := h
  clear h
  by_cases ha : a0 = 0
  · rw [if_pos ha] at H
    cases H
  rw [if_neg ha] at H
  rcases Nat.eq_zero_or_pos l2.length with hn | hn
  · rw [if_neg (by omega)] at H
    cases H
  rw [if_pos hn] at H
  have Hr := Aside0.mk (Option.some.inj H).symm
  clear H
  have eg : ∀ args w, (Go.callFunc 73 args).run Try.prog w = .ok (.enter 73 args) w := enters_of Try.func73 (by kernel_rfl) rfl
  have HF := Aside0.mk (fun (W : World) (hW : Below w.heap.size w W) (h1 : W.cell? ⟨w.heap.size + 1, 0, none⟩ = some (.int .i64 a1)) (h2 : W.cell? ⟨w.heap.size, 0, none⟩ = some (.int .i64 a0)) (h3 : W.cell? ⟨w.heap.size + 2, 0, none⟩ = some (.slice A2 l2.length c2)) =>
    ContainsFunc_R 73 #[.pointer (some ⟨w.heap.size + 1, 0, none⟩), .pointer (some ⟨w.heap.size, 0, none⟩), .pointer (some ⟨w.heap.size + 2, 0, none⟩)] eg (fun x => spot a0 a1 x != spot a0 a1 (rd_T26 l2 0)) A2 c2 l2 W
      (fun W' x hb => closTog a0 a1 ha (w.heap.size + 1) w.heap.size (w.heap.size + 2) A2 c2 l2 hn W h1 h2 h3 (Kd.C_below hr2 hW) W' x hb) (Kd.C_below hr2 hW) hc2)
  clear hr2 hc2 eg ha hn
  generalize (l2.any fun x => spot a0 a1 x != spot a0 a1 (rd_T26 l2 0)) = b at *
  go_enter Try.func57, Try.ntmps57
  go_wp2_with (go_at_call 51; refine (HF.out _ (by repeat (first | exact Below.refl _ _ | apply below_alloc | apply pw_below_drewN | apply below_drew1)) (by go_simp) (by go_simp) (by go_simp)).mono ?_; rintro e w' ⟨rfl, hb⟩)
  go_ret
  exact ⟨by rw [Hr.out]; rfl, below_step (by repeat (first | exact Below.refl _ _ | apply below_alloc | apply pw_below_drewN | apply below_drew1)) hb⟩

/-! ### impl_AllRunnersTogether: function 33 -/
def impl_AllRunnersTogether.l0 : Nat → Int → List (S26) → Int → Int → Option (Int × Bool)
  | 0, _, _, _, _ => none
  | k + 1, x0, x1, x11, x12 => if x12 < x11 then ((impl_areTogether.f x0 x12 x1).bind fun t143 => (if t143 = true then (some (x12, true)) else (impl_AllRunnersTogether.l0 k x0 x1 x11 (wrap64 (x12 + 1))))) else (some (0, false))
def impl_AllRunnersTogether.f (k : Nat) (a0 : Int) (l1 : List (S26)) : Option (Int × Bool) := (impl_AreRunners.f a0 l1).bind fun t142 => (if t142 = true then (impl_AllRunnersTogether.l0 k a0 l1 a0 0) else (some (0, false)))
theorem impl_AllRunnersTogether.mono_l : ∀ k, (∀ y0 y1 y2 y3, LeO (impl_AllRunnersTogether.l0 k y0 y1 y2 y3) (impl_AllRunnersTogether.l0 (k + 1) y0 y1 y2 y3))
  | 0 => fun _ _ _ _ r h => by simp [impl_AllRunnersTogether.l0] at h
  | k + 1 => by
    have ih0 := impl_AllRunnersTogether.mono_l k
    · intro y0 y1 y2 y3
      unfold impl_AllRunnersTogether.l0
      repeat' first
      | (with_reducible exact ih0 _ _ _ _)
      | (with_reducible exact LeO.refl _)
      | (with_reducible exact LeO.none _)
      | (with_reducible refine LeO.ite ?_ ?_)
      | (with_reducible refine LeO.bind ?_ (fun _ => ?_))
      | exact ih0 _ _ _ _
      | exact LeO.none _
      | refine LeO.ite ?_ ?_
      | refine LeO.bind ?_ (fun _ => ?_)
theorem impl_AllRunnersTogether.mono : ∀ a0 a1 k, LeO (impl_AllRunnersTogether.f k a0 a1) (impl_AllRunnersTogether.f (k + 1) a0 a1) := by
  intro a0 a1 k
  have ih0 := impl_AllRunnersTogether.mono_l k
  unfold impl_AllRunnersTogether.f
  repeat' first
      | (with_reducible exact ih0 _ _ _ _)
      | (with_reducible exact LeO.refl _)
      | (with_reducible exact LeO.none _)
      | (with_reducible refine LeO.ite ?_ ?_)
      | (with_reducible refine LeO.bind ?_ (fun _ => ?_))
      | exact ih0 _ _ _ _
      | exact LeO.none _
      | refine LeO.ite ?_ ?_
      | refine LeO.bind ?_ (fun _ => ?_)
set_option maxHeartbeats 8000000 in
set_option maxRecDepth 100000 in
theorem impl_AllRunnersTogether.calls (k : Nat) (a0 : Int) (A1 : Option Addr) (c1 : Nat) (l1 : List (S26)) (r1 : Int) (r2 : Bool) (w : World) (hr1 : Kd.C k26 w A1 l1.length l1) (hc1 : l1.length ≤ c1) (h : impl_AllRunnersTogether.f k a0 l1 = some (r1, r2)) :
    Calls Try.prog 33 #[.int .i64 a0, .slice A1 l1.length c1] w fun e w' => e = .returned (.tuple #[.int .i64 r1, .bool r2]) ∧ Below w.heap.size w w' := by
  have HR1 := Aside0.mk hr1
  have HC1 := Aside0.mk hc1
  clear hr1 hc1
  have HB := Aside0.mk (Below.refl w.heap.size w)
  have H : ((impl_AreRunners.f a0 l1).bind fun t142 => (if t142 = true then (impl_AllRunnersTogether.l0 k a0 l1 a0 0) else (some (0, false)))) = some (r1, r2) := h
  clear h
  replace H := Option.bind_eq_some_iff.mp H
  obtain ⟨t142, A30, H⟩ := H
  replace H : (if t142 = true then (impl_AllRunnersTogether.l0 k a0 l1 a0 0) else (some (0, false))) = some (r1, r2) := H
  have A3 := Aside0.mk A30
  clear A30
  by_cases c4 : t142 = true
  · subst c4
    have H1 : (impl_AllRunnersTogether.l0 k a0 l1 a0 0) = some (r1, r2) := by rw [if_pos rfl] at H; exact H
    clear H
    have H := H1
    clear H1
    have H' := Aside0.mk H
    clear H
    go_enter Try.func33, Try.ntmps33
    go_wp2_with (first | ((with_reducible refine gate_callee (f := 18) rfl ?_); refine goesL_ (some 9) rfl rfl Try.func18 (by kernel_rfl) rfl #[.int .i64 a0, .slice A1 l1.length c1] rfl (by (try simp only [List.map_toArray, List.map_cons, List.map_nil]); first | done | rfl | (simp only [List.length_drop, List.length_take]; rfl)) ?_; (with_reducible refine (impl_AreRunners.calls a0 _ _ l1 true _ ?side1 ?side2 A3.out).mono ?_); (case side1 => repeat (first | exact HR1.out | (with_reducible refine Kd.C_alloc ?_ _) | (with_reducible refine Kd.C_drewN ?_ _) | (with_reducible refine Kd.C_drew ?_))); (case side2 => exact HC1.out); rintro e w5 ⟨rfl, hb⟩; refine ⟨_, rfl, ?_⟩; have n0_ := Aside0.mk (below_step (by repeat (first | (with_reducible first | exact HB.out | apply below_alloc | apply pw_below_drewN | apply below_drew1) | exact HB.out)) hb); clear HB; have HB := n0_; clear n0_; (try clear hb); (try clear hb2); (try clear hk); (try clear hi)))
    go_loopg [12] k (fun kq v12 w' => ∃ (x12_1 : Int), v12 = .int .i64 x12_1 ∧ Aside0 (impl_AllRunnersTogether.l0 kq a0 l1 a0 x12_1 = some (r1, r2)) ∧ Aside0 (kq ≤ k) ∧ Aside0 (Below w.heap.size w w'))
    case atStart => exact ⟨(0), (by first | rfl | (simp; done) | (simp [*]; done)), H', ⟨Nat.le_refl _⟩, ⟨by repeat (first | (with_reducible first | exact HB.out | apply below_alloc | apply pw_below_drewN | apply below_drew1) | exact HB.out)⟩⟩
    case round =>
      clear H'
      try clear c1
      try clear p2
      try clear c3
      try clear c4
      obtain ⟨x12_1, rfl, HA, HK1, HB⟩ := hrel
      cases gk with
      | zero => exact absurd HA.out (by simp [impl_AllRunnersTogether.l0])
      | succ k1 =>
        have H := HA.out
        clear HA
        simp only [impl_AllRunnersTogether.l0] at H
        by_cases c6 : x12_1 < a0
        · rw [if_pos c6] at H
          have c6b0 : decide (x12_1 < a0) = true := decide_eq_true c6
          clear c6
          replace H := Option.bind_eq_some_iff.mp H
          obtain ⟨t143, A70, H⟩ := H
          replace H : (if t143 = true then (some (x12_1, true)) else (impl_AllRunnersTogether.l0 k1 a0 l1 a0 (wrap64 (x12_1 + 1)))) = some (r1, r2) := H
          have A7 := Aside0.mk A70
          clear A70
          by_cases c8 : t143 = true
          · subst c8
            have H1 : (some (x12_1, true)) = some (r1, r2) := by rw [if_pos rfl] at H; exact H
            clear H
            have H := H1
            clear H1
            simp only [Option.some.injEq, Prod.mk.injEq] at H
            obtain ⟨rfl, rfl⟩ := H
            go_wp2_with (first | ((with_reducible refine gate_callee (f := 57) rfl ?_); refine goesL_ (some 18) rfl rfl Try.func57 (by kernel_rfl) rfl #[.int .i64 a0, .int .i64 x12_1, .slice A1 l1.length c1] rfl (by (try simp only [List.map_toArray, List.map_cons, List.map_nil]); first | done | rfl | (simp only [List.length_drop, List.length_take]; rfl)) ?_; (with_reducible refine (impl_areTogether.calls a0 x12_1 _ _ l1 true _ ?side1 ?side2 A7.out).mono ?_); (case side1 => repeat (first | exact (Kd.C_below HR1.out HB.out) | (with_reducible refine Kd.C_alloc ?_ _) | (with_reducible refine Kd.C_drewN ?_ _) | (with_reducible refine Kd.C_drew ?_))); (case side2 => exact HC1.out); rintro e w9 ⟨rfl, hb⟩; refine ⟨_, rfl, ?_⟩; have n0_ := Aside0.mk (below_step (by repeat (first | (with_reducible first | exact HB.out | apply below_alloc | apply pw_below_drewN | apply below_drew1) | exact HB.out)) hb); clear HB; have HB := n0_; clear n0_; (try clear hb); (try clear hb2); (try clear hk); (try clear hi)))
            go_ret2
            exact ⟨by first | rfl | (simp [errW_none, errW_some] <;> rfl) | (simp [*, errW_none, errW_some] <;> rfl), by repeat (first | (with_reducible first | exact HB.out | apply below_alloc | apply pw_below_drewN | apply below_drew1) | exact HB.out)⟩
          · replace c8 := Bool.eq_false_iff.mpr c8
            subst c8
            have H1 : (impl_AllRunnersTogether.l0 k1 a0 l1 a0 (wrap64 (x12_1 + 1))) = some (r1, r2) := by rw [if_neg (show ¬ (false = true) by decide)] at H; exact H
            clear H
            have H := H1
            clear H1
            have H' := Aside0.mk H
            clear H
            go_wp2_with (first | ((with_reducible refine gate_callee (f := 57) rfl ?_); refine goesL_ (some 18) rfl rfl Try.func57 (by kernel_rfl) rfl #[.int .i64 a0, .int .i64 x12_1, .slice A1 l1.length c1] rfl (by (try simp only [List.map_toArray, List.map_cons, List.map_nil]); first | done | rfl | (simp only [List.length_drop, List.length_take]; rfl)) ?_; (with_reducible refine (impl_areTogether.calls a0 x12_1 _ _ l1 false _ ?side1 ?side2 A7.out).mono ?_); (case side1 => repeat (first | exact (Kd.C_below HR1.out HB.out) | (with_reducible refine Kd.C_alloc ?_ _) | (with_reducible refine Kd.C_drewN ?_ _) | (with_reducible refine Kd.C_drew ?_))); (case side2 => exact HC1.out); rintro e w10 ⟨rfl, hb⟩; refine ⟨_, rfl, ?_⟩; have n0_ := Aside0.mk (below_step (by repeat (first | (with_reducible first | exact HB.out | apply below_alloc | apply pw_below_drewN | apply below_drew1) | exact HB.out)) hb); clear HB; have HB := n0_; clear n0_; (try clear hb); (try clear hb2); (try clear hk); (try clear hi)))
            go_roundg k1
            case measure => have := HK1.out; omega
            case rel => exact ⟨(wrap64 (x12_1 + 1)), (by first | rfl | (simp; done) | (simp [*]; done)), H', ⟨by have := HK1.out; omega⟩, ⟨by repeat (first | (with_reducible first | exact HB.out | apply below_alloc | apply pw_below_drewN | apply below_drew1) | exact HB.out)⟩⟩
        · rw [if_neg c6] at H
          have c6b0 : decide (x12_1 < a0) = false := decide_eq_false c6
          clear c6
          simp only [Option.some.injEq, Prod.mk.injEq] at H
          obtain ⟨rfl, rfl⟩ := H
          go_wp2
          go_ret2
          exact ⟨by first | rfl | (simp [errW_none, errW_some] <;> rfl) | (simp [*, errW_none, errW_some] <;> rfl), by repeat (first | (with_reducible first | exact HB.out | apply below_alloc | apply pw_below_drewN | apply below_drew1) | exact HB.out)⟩
  · replace c4 := Bool.eq_false_iff.mpr c4
    subst c4
    have H1 : (some (0, false)) = some (r1, r2) := by rw [if_neg (show ¬ (false = true) by decide)] at H; exact H
    clear H
    have H := H1
    clear H1
    simp only [Option.some.injEq, Prod.mk.injEq] at H
    obtain ⟨rfl, rfl⟩ := H
    go_enter Try.func33, Try.ntmps33
    go_wp2_with (first | ((with_reducible refine gate_callee (f := 18) rfl ?_); refine goesL_ (some 9) rfl rfl Try.func18 (by kernel_rfl) rfl #[.int .i64 a0, .slice A1 l1.length c1] rfl (by (try simp only [List.map_toArray, List.map_cons, List.map_nil]); first | done | rfl | (simp only [List.length_drop, List.length_take]; rfl)) ?_; (with_reducible refine (impl_AreRunners.calls a0 _ _ l1 false _ ?side1 ?side2 A3.out).mono ?_); (case side1 => repeat (first | exact HR1.out | (with_reducible refine Kd.C_alloc ?_ _) | (with_reducible refine Kd.C_drewN ?_ _) | (with_reducible refine Kd.C_drew ?_))); (case side2 => exact HC1.out); rintro e w11 ⟨rfl, hb⟩; refine ⟨_, rfl, ?_⟩; have n0_ := Aside0.mk (below_step (by repeat (first | (with_reducible first | exact HB.out | apply below_alloc | apply pw_below_drewN | apply below_drew1) | exact HB.out)) hb); clear HB; have HB := n0_; clear n0_; (try clear hb); (try clear hb2); (try clear hk); (try clear hi)))
    go_ret2
    exact ⟨by first | rfl | (simp [errW_none, errW_some] <;> rfl) | (simp [*, errW_none, errW_some] <;> rfl), by repeat (first | (with_reducible first | exact HB.out | apply below_alloc | apply pw_below_drewN | apply below_drew1) | exact HB.out)⟩

/-! ### laws_FnExactAllRunnersTogether: function 8 -/
def laws_FnExactAllRunnersTogether.j0 : Nat → List (S23) → List (S26) → Bool → Option (Bool)
  | 0, _, _, _ => none
  | k + 1, x1, x8, x38 => if x38 = true then (some false) else ((laws_toRunnerS.f k x1).bind fun t155 => ((laws_eqRunnerS.f k x8 t155).bind fun t158 => (if t158 = true then (some true) else (some false))))
def laws_FnExactAllRunnersTogether.f (k : Nat) (a0 : Int) (l1 : List (S23)) : Option (Bool) := (laws_szRunnerS.f l1 1048576).bind fun t144 => (if t144 < 0 then (some true) else ((laws_toRunnerS.f k l1).bind fun t145 => ((spec_AllRunnersTogether.f k a0 t145).bind fun bt148 => ((laws_toRunnerS.f k l1).bind fun t150 => ((impl_AllRunnersTogether.f k a0 t150).bind fun bt153 => (if bt153.1 = bt148.1 then (laws_FnExactAllRunnersTogether.j0 k l1 t150 (bt153.2 != bt148.2)) else (laws_FnExactAllRunnersTogether.j0 k l1 t150 true)))))))
theorem laws_FnExactAllRunnersTogether.mono_l : ∀ k, (∀ y0 y1 y2, LeO (laws_FnExactAllRunnersTogether.j0 k y0 y1 y2) (laws_FnExactAllRunnersTogether.j0 (k + 1) y0 y1 y2))
  | 0 => fun _ _ _ r h => by simp [laws_FnExactAllRunnersTogether.j0] at h
  | k + 1 => by
    have ih0 := laws_FnExactAllRunnersTogether.mono_l k
    · intro y0 y1 y2
      unfold laws_FnExactAllRunnersTogether.j0
      repeat' first
      | (with_reducible exact ih0 _ _ _)
      | (with_reducible exact impl_AllRunnersTogether.mono _ _ _)
      | (with_reducible exact laws_eqRunnerS.mono _ _ _)
      | (with_reducible exact laws_toRunnerS.mono _ _)
      | (with_reducible exact spec_AllRunnersTogether.mono _ _ _)
      | (with_reducible exact LeO.refl _)
      | (with_reducible exact LeO.none _)
      | (with_reducible refine LeO.ite ?_ ?_)
      | (with_reducible refine LeO.bind ?_ (fun _ => ?_))
      | exact ih0 _ _ _
      | exact impl_AllRunnersTogether.mono _ _ _
      | exact laws_eqRunnerS.mono _ _ _
      | exact laws_toRunnerS.mono _ _
      | exact spec_AllRunnersTogether.mono _ _ _
      | exact LeO.none _
      | refine LeO.ite ?_ ?_
      | refine LeO.bind ?_ (fun _ => ?_)
theorem laws_FnExactAllRunnersTogether.mono : ∀ a0 a1 k, LeO (laws_FnExactAllRunnersTogether.f k a0 a1) (laws_FnExactAllRunnersTogether.f (k + 1) a0 a1) := by
  intro a0 a1 k
  have ih0 := laws_FnExactAllRunnersTogether.mono_l k
  unfold laws_FnExactAllRunnersTogether.f
  repeat' first
      | (with_reducible exact ih0 _ _ _)
      | (with_reducible exact impl_AllRunnersTogether.mono _ _ _)
      | (with_reducible exact laws_eqRunnerS.mono _ _ _)
      | (with_reducible exact laws_toRunnerS.mono _ _)
      | (with_reducible exact spec_AllRunnersTogether.mono _ _ _)
      | (with_reducible exact LeO.refl _)
      | (with_reducible exact LeO.none _)
      | (with_reducible refine LeO.ite ?_ ?_)
      | (with_reducible refine LeO.bind ?_ (fun _ => ?_))
      | exact ih0 _ _ _
      | exact impl_AllRunnersTogether.mono _ _ _
      | exact laws_eqRunnerS.mono _ _ _
      | exact laws_toRunnerS.mono _ _
      | exact spec_AllRunnersTogether.mono _ _ _
      | exact LeO.none _
      | refine LeO.ite ?_ ?_
      | refine LeO.bind ?_ (fun _ => ?_)
set_option maxHeartbeats 8000000 in
set_option maxRecDepth 100000 in
theorem laws_FnExactAllRunnersTogether.calls (k : Nat) (a0 : Int) (A1 : Option Addr) (c1 : Nat) (l1 : List (S23)) (r : Bool) (w : World) (hr1 : Kd.C k23 w A1 l1.length l1) (hc1 : l1.length ≤ c1) (h : laws_FnExactAllRunnersTogether.f k a0 l1 = some r) :
    Calls Try.prog 8 #[.int .i64 a0, .slice A1 l1.length c1] w fun e w' => e = .returned (.bool r) ∧ Below w.heap.size w w' := by
  have HR1 := Aside0.mk hr1
  have HC1 := Aside0.mk hc1
  clear hr1 hc1
  have HB := Aside0.mk (Below.refl w.heap.size w)
  have H : ((laws_szRunnerS.f l1 1048576).bind fun t144 => (if t144 < 0 then (some true) else ((laws_toRunnerS.f k l1).bind fun t145 => ((spec_AllRunnersTogether.f k a0 t145).bind fun bt148 => ((laws_toRunnerS.f k l1).bind fun t150 => ((impl_AllRunnersTogether.f k a0 t150).bind fun bt153 => (if bt153.1 = bt148.1 then (laws_FnExactAllRunnersTogether.j0 k l1 t150 (bt153.2 != bt148.2)) else (laws_FnExactAllRunnersTogether.j0 k l1 t150 true)))))))) = some r := h
  clear h
  replace H := Option.bind_eq_some_iff.mp H
  obtain ⟨t144, A30, H⟩ := H
  replace H : (if t144 < 0 then (some true) else ((laws_toRunnerS.f k l1).bind fun t145 => ((spec_AllRunnersTogether.f k a0 t145).bind fun bt148 => ((laws_toRunnerS.f k l1).bind fun t150 => ((impl_AllRunnersTogether.f k a0 t150).bind fun bt153 => (if bt153.1 = bt148.1 then (laws_FnExactAllRunnersTogether.j0 k l1 t150 (bt153.2 != bt148.2)) else (laws_FnExactAllRunnersTogether.j0 k l1 t150 true))))))) = some r := H
  have A3 := Aside0.mk A30
  clear A30
  by_cases c4 : t144 < 0
  · rw [if_pos c4] at H
    have c4b0 : decide (t144 < 0) = true := decide_eq_true c4
    clear c4
    obtain rfl := Option.some.inj H
    go_enter Try.func8, Try.ntmps8
    go_wp2_with (first | ((with_reducible refine gate_callee (f := 15) rfl ?_); refine goesL_ (some 13) rfl rfl Try.func15 (by kernel_rfl) rfl #[.slice A1 l1.length c1, .int .i64 1048576] rfl (by (try simp only [List.map_toArray, List.map_cons, List.map_nil]); first | done | rfl | (simp only [List.length_drop, List.length_take]; rfl)) ?_; (with_reducible refine (laws_szRunnerS.calls _ _ l1 1048576 t144 _ ?side1 ?side2 A3.out).mono ?_); (case side1 => repeat (first | exact HR1.out | (with_reducible refine Kd.C_alloc ?_ _) | (with_reducible refine Kd.C_drewN ?_ _) | (with_reducible refine Kd.C_drew ?_))); (case side2 => exact HC1.out); rintro e w' ⟨rfl, ⟨nd, rfl⟩⟩; refine ⟨_, rfl, ?_⟩))
    go_ret
    exact ⟨by first | rfl | (simp [errW_none, errW_some] <;> rfl) | (simp [*, errW_none, errW_some] <;> rfl), by repeat (first | (with_reducible first | exact HB.out | apply below_alloc | apply pw_below_drewN | apply below_drew1) | exact HB.out)⟩
  · rw [if_neg c4] at H
    have c4b0 : decide (t144 < 0) = false := decide_eq_false c4
    clear c4
    replace H := Option.bind_eq_some_iff.mp H
    obtain ⟨t145, A50, H⟩ := H
    replace H : ((spec_AllRunnersTogether.f k a0 t145).bind fun bt148 => ((laws_toRunnerS.f k l1).bind fun t150 => ((impl_AllRunnersTogether.f k a0 t150).bind fun bt153 => (if bt153.1 = bt148.1 then (laws_FnExactAllRunnersTogether.j0 k l1 t150 (bt153.2 != bt148.2)) else (laws_FnExactAllRunnersTogether.j0 k l1 t150 true))))) = some r := H
    have A5 := Aside0.mk A50
    clear A50
    replace H := Option.bind_eq_some_iff.mp H
    obtain ⟨⟨t148, t149⟩, A60, H⟩ := H
    replace H : ((laws_toRunnerS.f k l1).bind fun t150 => ((impl_AllRunnersTogether.f k a0 t150).bind fun bt153 => (if bt153.1 = t148 then (laws_FnExactAllRunnersTogether.j0 k l1 t150 (bt153.2 != t149)) else (laws_FnExactAllRunnersTogether.j0 k l1 t150 true)))) = some r := H
    have A6 := Aside0.mk A60
    clear A60
    replace H := Option.bind_eq_some_iff.mp H
    obtain ⟨t150, A70, H⟩ := H
    replace H : ((impl_AllRunnersTogether.f k a0 t150).bind fun bt153 => (if bt153.1 = t148 then (laws_FnExactAllRunnersTogether.j0 k l1 t150 (bt153.2 != t149)) else (laws_FnExactAllRunnersTogether.j0 k l1 t150 true))) = some r := H
    have A7 := Aside0.mk A70
    clear A70
    replace H := Option.bind_eq_some_iff.mp H
    obtain ⟨⟨t153, t154⟩, A80, H⟩ := H
    replace H : (if t153 = t148 then (laws_FnExactAllRunnersTogether.j0 k l1 t150 (t154 != t149)) else (laws_FnExactAllRunnersTogether.j0 k l1 t150 true)) = some r := H
    have A8 := Aside0.mk A80
    clear A80
    have HC9 := Aside0.mk H
    clear H
    go_enter Try.func8, Try.ntmps8
    go_upto_region 8 with (first | ((with_reducible refine gate_callee (f := 15) rfl ?_); refine goesL_ (some 13) rfl rfl Try.func15 (by kernel_rfl) rfl #[.slice A1 l1.length c1, .int .i64 1048576] rfl (by (try simp only [List.map_toArray, List.map_cons, List.map_nil]); first | done | rfl | (simp only [List.length_drop, List.length_take]; rfl)) ?_; (with_reducible refine (laws_szRunnerS.calls _ _ l1 1048576 t144 _ ?side1 ?side2 A3.out).mono ?_); (case side1 => repeat (first | exact HR1.out | (with_reducible refine Kd.C_alloc ?_ _) | (with_reducible refine Kd.C_drewN ?_ _) | (with_reducible refine Kd.C_drew ?_))); (case side2 => exact HC1.out); rintro e w' ⟨rfl, ⟨nd, rfl⟩⟩; refine ⟨_, rfl, ?_⟩) | ((with_reducible refine gate_callee (f := 17) rfl ?_); refine goesL_ (some 19) rfl rfl Try.func17 (by kernel_rfl) rfl #[.slice A1 l1.length c1] rfl (by (try simp only [List.map_toArray, List.map_cons, List.map_nil]); first | done | rfl | (simp only [List.length_drop, List.length_take]; rfl)) ?_; (with_reducible refine (laws_toRunnerS.calls k _ _ l1 t145 _ ?side1 ?side2 A5.out).mono ?_); (case side1 => repeat (first | exact HR1.out | (with_reducible refine Kd.C_alloc ?_ _) | (with_reducible refine Kd.C_drewN ?_ _) | (with_reducible refine Kd.C_drew ?_))); (case side2 => exact HC1.out); rintro e w10 ⟨v146, rfl, ho0, hb⟩; refine ⟨_, rfl, ?_⟩; have n0_ := Aside0.mk (Kd.R_lower ho0 (below_size (by repeat (first | (with_reducible first | exact HB.out | apply below_alloc | apply pw_below_drewN | apply below_drew1) | exact HB.out)))); have n1_ := Aside0.mk (below_step (by repeat (first | (with_reducible first | exact HB.out | apply below_alloc | apply pw_below_drewN | apply below_drew1) | exact HB.out)) hb); clear HB; have HO147 := n0_; have HB := n1_; clear n0_ n1_; (try clear hb); (try clear hb2); (try clear hk); (try clear hi); (try clear ho0); obtain ⟨Ao11, co11, eo11⟩ := Kd.R_slice HO147.out; subst eo11) | ((with_reducible refine gate_callee (f := 32) rfl ?_); refine goesL_ (some 20) rfl rfl Try.func32 (by kernel_rfl) rfl #[.int .i64 a0, .slice Ao11 t145.length co11] rfl (by (try simp only [List.map_toArray, List.map_cons, List.map_nil]); first | done | rfl | (simp only [List.length_drop, List.length_take]; rfl)) ?_; (with_reducible refine (spec_AllRunnersTogether.calls k a0 _ _ t145 t148 t149 _ ?side1 ?side2 A6.out).mono ?_); (case side1 => repeat (first | exact (Kd.R_reads' HO147.out).2.2 | (with_reducible refine Kd.C_alloc ?_ _) | (with_reducible refine Kd.C_drewN ?_ _) | (with_reducible refine Kd.C_drew ?_))); (case side2 => exact (Kd.R_reads' HO147.out).2.1); rintro e w12 ⟨rfl, hb⟩; refine ⟨_, rfl, ?_⟩; have n0_ := Aside0.mk (Kd.R_below (by (with_reducible repeat (first | apply Kd.R_alloc | apply Kd.R_drewN | apply Kd.R_drew)); exact HO147.out) hb); have n1_ := Aside0.mk (below_step (by repeat (first | (with_reducible first | exact HB.out | apply below_alloc | apply pw_below_drewN | apply below_drew1) | exact HB.out)) hb); clear HO147; clear HB; have HO147 := n0_; have HB := n1_; clear n0_ n1_; (try clear hb); (try clear hb2); (try clear hk); (try clear hi)) | ((with_reducible refine gate_callee (f := 17) rfl ?_); refine goesL_ (some 24) rfl rfl Try.func17 (by kernel_rfl) rfl #[.slice A1 l1.length c1] rfl (by (try simp only [List.map_toArray, List.map_cons, List.map_nil]); first | done | rfl | (simp only [List.length_drop, List.length_take]; rfl)) ?_; (with_reducible refine (laws_toRunnerS.calls k _ _ l1 t150 _ ?side1 ?side2 A7.out).mono ?_); (case side1 => repeat (first | exact (Kd.C_below HR1.out HB.out) | (with_reducible refine Kd.C_alloc ?_ _) | (with_reducible refine Kd.C_drewN ?_ _) | (with_reducible refine Kd.C_drew ?_))); (case side2 => exact HC1.out); rintro e w13 ⟨v151, rfl, ho0, hb⟩; refine ⟨_, rfl, ?_⟩; have n0_ := Aside0.mk (Kd.R_elder' (by (with_reducible repeat (first | apply Kd.R_alloc | apply Kd.R_drewN | apply Kd.R_drew)); exact HO147.out) (Kd.R_base ho0) hb); have n1_ := Aside0.mk (Kd.R_lower (Kd.R_new' ho0 (Kd.R_lt (by (with_reducible repeat (first | apply Kd.R_alloc | apply Kd.R_drewN | apply Kd.R_drew)); exact HO147.out))) (below_size (by repeat (first | (with_reducible first | exact HB.out | apply below_alloc | apply pw_below_drewN | apply below_drew1) | exact HB.out)))); have n2_ := Aside0.mk (below_step (by repeat (first | (with_reducible first | exact HB.out | apply below_alloc | apply pw_below_drewN | apply below_drew1) | exact HB.out)) hb); clear HO147; clear HB; have HO147 := n0_; have HO152 := n1_; have HB := n2_; clear n0_ n1_ n2_; (try clear hb); (try clear hb2); (try clear hk); (try clear hi); (try clear ho0); obtain ⟨Ao14, co14, eo14⟩ := Kd.R_slice HO152.out; subst eo14) | ((with_reducible refine gate_callee (f := 33) rfl ?_); refine goesL_ (some 28) rfl rfl Try.func33 (by kernel_rfl) rfl #[.int .i64 a0, .slice Ao14 t150.length co14] rfl (by (try simp only [List.map_toArray, List.map_cons, List.map_nil]); first | done | rfl | (simp only [List.length_drop, List.length_take]; rfl)) ?_; (with_reducible refine (impl_AllRunnersTogether.calls k a0 _ _ t150 t153 t154 _ ?side1 ?side2 A8.out).mono ?_); (case side1 => repeat (first | exact (Kd.R_reads' HO152.out).2.2 | (with_reducible refine Kd.C_alloc ?_ _) | (with_reducible refine Kd.C_drewN ?_ _) | (with_reducible refine Kd.C_drew ?_))); (case side2 => exact (Kd.R_reads' HO152.out).2.1); rintro e w15 ⟨rfl, hb⟩; refine ⟨_, rfl, ?_⟩; have n0_ := Aside0.mk (Kd.R_below (by (with_reducible repeat (first | apply Kd.R_alloc | apply Kd.R_drewN | apply Kd.R_drew)); exact HO147.out) hb); have n1_ := Aside0.mk (Kd.R_below (by (with_reducible repeat (first | apply Kd.R_alloc | apply Kd.R_drewN | apply Kd.R_drew)); exact HO152.out) hb); have n2_ := Aside0.mk (below_step (by repeat (first | (with_reducible first | exact HB.out | apply below_alloc | apply pw_below_drewN | apply below_drew1) | exact HB.out)) hb); clear HO147; clear HO152; clear HB; have HO147 := n0_; have HO152 := n1_; have HB := n2_; clear n0_ n1_ n2_; (try clear hb); (try clear hb2); (try clear hk); (try clear hi)))
    (try simp only [Act.put, List.setIfInBounds_toArray, List.set_cons_zero, List.set_cons_succ])
    go_cut [38] (fun v38 wc => ∃ (kq : Nat) (x38_8 : Bool), v38 = .bool x38_8 ∧ Aside0 (laws_FnExactAllRunnersTogether.j0 kq l1 t150 x38_8 = some r) ∧ Aside0 (kq ≤ k) ∧ Aside0 (Kd.R k26 26 wc w.heap.size (fun _ => True) (.slice Ao14 t150.length co14) t150) ∧ Aside0 (Below w.heap.size w wc))
    case first =>
      have H := HC9.out
      clear HC9
      by_cases c16 : t153 = t148
      · rw [if_pos c16] at H
        have c16b0 : (t153 == t148) = true := beq_iff_eq.mpr c16
        have c16b1 : (t153 != t148) = false := bne_eq_false_iff_eq.mpr c16
        clear c16
        (first | rw [c16b0] | (simp only [i64_w, i32_w]; rw [c16b0]) | skip)
        have H' := Aside0.mk H
        clear H
        go_wp2
        go_meet
        case rel => exact ⟨_, ((t154 != t149)), (by first | rfl | (simp; done) | (simp [*]; done)), H', ⟨by first | omega | exact Nat.le_refl _⟩, ⟨by (with_reducible repeat (first | apply Kd.R_alloc | apply Kd.R_drewN | apply Kd.R_drew)); exact Kd.R_mono HO152.out (fun _ hk => trivial)⟩, ⟨by repeat (first | (with_reducible first | exact HB.out | apply below_alloc | apply pw_below_drewN | apply below_drew1) | exact HB.out)⟩⟩
      · rw [if_neg c16] at H
        have c16b0 : (t153 == t148) = false := beq_eq_false_iff_ne.mpr c16
        have c16b1 : (t153 != t148) = true := bne_iff_ne.mpr c16
        (first | rw [c16b0] | (simp only [i64_w, i32_w]; rw [c16b0]) | skip)
        have H' := Aside0.mk H
        clear H
        go_wp2
        go_meet
        case rel => exact ⟨_, (true), (by first | rfl | (simp; done) | (simp [*]; done)), H', ⟨by first | omega | exact Nat.le_refl _⟩, ⟨by (with_reducible repeat (first | apply Kd.R_alloc | apply Kd.R_drewN | apply Kd.R_drew)); exact Kd.R_mono HO152.out (fun _ hk => trivial)⟩, ⟨by repeat (first | (with_reducible first | exact HB.out | apply below_alloc | apply pw_below_drewN | apply below_drew1) | exact HB.out)⟩⟩
    case rest =>
      clear HC9
      try clear c1
      try clear p2
      try clear c3
      try clear c4
      try clear c4b0
      try clear c8
      try clear c15
      try clear c16
      try clear c16b0
      try clear c16b1
      obtain ⟨kq, x38_8, rfl, HA, HJ8, HO_8, HB⟩ := hcut
      cases kq with
      | zero => exact absurd HA.out (by simp [laws_FnExactAllRunnersTogether.j0])
      | succ kj8 =>
        have H := HA.out
        clear HA
        simp only [laws_FnExactAllRunnersTogether.j0] at H
        by_cases c17 : x38_8 = true
        · subst c17
          have H1 : (some false) = some r := by rw [if_pos rfl] at H; exact H
          clear H
          have H := H1
          clear H1
          obtain rfl := Option.some.inj H
          go_wp2
          go_ret
          exact ⟨by first | rfl | (simp [errW_none, errW_some] <;> rfl) | (simp [*, errW_none, errW_some] <;> rfl), by repeat (first | (with_reducible first | exact HB.out | apply below_alloc | apply pw_below_drewN | apply below_drew1) | exact HB.out)⟩
        · replace c17 := Bool.eq_false_iff.mpr c17
          subst c17
          have H1 : ((laws_toRunnerS.f kj8 l1).bind fun t155 => ((laws_eqRunnerS.f kj8 t150 t155).bind fun t158 => (if t158 = true then (some true) else (some false)))) = some r := by rw [if_neg (show ¬ (false = true) by decide)] at H; exact H
          clear H
          have H := H1
          clear H1
          replace H := Option.bind_eq_some_iff.mp H
          obtain ⟨t155, A180, H⟩ := H
          replace H : ((laws_eqRunnerS.f kj8 t150 t155).bind fun t158 => (if t158 = true then (some true) else (some false))) = some r := H
          have A18 := Aside0.mk A180
          clear A180
          replace H := Option.bind_eq_some_iff.mp H
          obtain ⟨t158, A190, H⟩ := H
          replace H : (if t158 = true then (some true) else (some false)) = some r := H
          have A19 := Aside0.mk A190
          clear A190
          by_cases c20 : t158 = true
          · subst c20
            have H1 : (some true) = some r := by rw [if_pos rfl] at H; exact H
            clear H
            have H := H1
            clear H1
            obtain rfl := Option.some.inj H
            go_wp2_with (first | ((with_reducible refine gate_callee (f := 17) rfl ?_); refine goesL_ (some 41) rfl rfl Try.func17 (by kernel_rfl) rfl #[.slice A1 l1.length c1] rfl (by (try simp only [List.map_toArray, List.map_cons, List.map_nil]); first | done | rfl | (simp only [List.length_drop, List.length_take]; rfl)) ?_; (with_reducible refine (laws_toRunnerS.calls kj8 _ _ l1 t155 _ ?side1 ?side2 A18.out).mono ?_); (case side1 => repeat (first | exact (Kd.C_below HR1.out HB.out) | (with_reducible refine Kd.C_alloc ?_ _) | (with_reducible refine Kd.C_drewN ?_ _) | (with_reducible refine Kd.C_drew ?_))); (case side2 => exact HC1.out); rintro e w21 ⟨v156, rfl, ho0, hb⟩; refine ⟨_, rfl, ?_⟩; have n0_ := Aside0.mk (Kd.R_elder' (by (with_reducible repeat (first | apply Kd.R_alloc | apply Kd.R_drewN | apply Kd.R_drew)); exact HO_8.out) (Kd.R_base ho0) hb); have n1_ := Aside0.mk (Kd.R_lower (Kd.R_new' ho0 (Kd.R_lt (by (with_reducible repeat (first | apply Kd.R_alloc | apply Kd.R_drewN | apply Kd.R_drew)); exact HO_8.out))) (below_size (by repeat (first | (with_reducible first | exact HB.out | apply below_alloc | apply pw_below_drewN | apply below_drew1) | exact HB.out)))); have n2_ := Aside0.mk (below_step (by repeat (first | (with_reducible first | exact HB.out | apply below_alloc | apply pw_below_drewN | apply below_drew1) | exact HB.out)) hb); clear HO_8; clear HB; have HO_8 := n0_; have HO157 := n1_; have HB := n2_; clear n0_ n1_ n2_; (try clear hb); (try clear hb2); (try clear hk); (try clear hi); (try clear ho0); obtain ⟨Ao22, co22, eo22⟩ := Kd.R_slice HO157.out; subst eo22) | ((with_reducible refine gate_callee (f := 19) rfl ?_); refine goesL_ (some 42) rfl rfl Try.func19 (by kernel_rfl) rfl #[.slice Ao14 t150.length co14, .slice Ao22 t155.length co22] rfl (by (try simp only [List.map_toArray, List.map_cons, List.map_nil]); first | done | rfl | (simp only [List.length_drop, List.length_take]; rfl)) ?_; (with_reducible refine (laws_eqRunnerS.calls kj8 _ _ t150 _ _ t155 true _ ?side1 ?side2 ?side3 ?side4 A19.out).mono ?_); (case side1 => repeat (first | exact (Kd.R_reads' HO_8.out).2.2 | (with_reducible refine Kd.C_alloc ?_ _) | (with_reducible refine Kd.C_drewN ?_ _) | (with_reducible refine Kd.C_drew ?_))); (case side2 => exact (Kd.R_reads' HO_8.out).2.1); (case side3 => repeat (first | exact (Kd.R_reads' HO157.out).2.2 | (with_reducible refine Kd.C_alloc ?_ _) | (with_reducible refine Kd.C_drewN ?_ _) | (with_reducible refine Kd.C_drew ?_))); (case side4 => exact (Kd.R_reads' HO157.out).2.1); rintro e w23 ⟨rfl, hb⟩; refine ⟨_, rfl, ?_⟩; have n0_ := Aside0.mk (Kd.R_below (by (with_reducible repeat (first | apply Kd.R_alloc | apply Kd.R_drewN | apply Kd.R_drew)); exact HO_8.out) hb); have n1_ := Aside0.mk (Kd.R_below (by (with_reducible repeat (first | apply Kd.R_alloc | apply Kd.R_drewN | apply Kd.R_drew)); exact HO157.out) hb); have n2_ := Aside0.mk (below_step (by repeat (first | (with_reducible first | exact HB.out | apply below_alloc | apply pw_below_drewN | apply below_drew1) | exact HB.out)) hb); clear HO_8; clear HO157; clear HB; have HO_8 := n0_; have HO157 := n1_; have HB := n2_; clear n0_ n1_ n2_; (try clear hb); (try clear hb2); (try clear hk); (try clear hi)))
            go_ret
            exact ⟨by first | rfl | (simp [errW_none, errW_some] <;> rfl) | (simp [*, errW_none, errW_some] <;> rfl), by repeat (first | (with_reducible first | exact HB.out | apply below_alloc | apply pw_below_drewN | apply below_drew1) | exact HB.out)⟩
          · replace c20 := Bool.eq_false_iff.mpr c20
            subst c20
            have H1 : (some false) = some r := by rw [if_neg (show ¬ (false = true) by decide)] at H; exact H
            clear H
            have H := H1
            clear H1
            obtain rfl := Option.some.inj H
            go_wp2_with (first | ((with_reducible refine gate_callee (f := 17) rfl ?_); refine goesL_ (some 41) rfl rfl Try.func17 (by kernel_rfl) rfl #[.slice A1 l1.length c1] rfl (by (try simp only [List.map_toArray, List.map_cons, List.map_nil]); first | done | rfl | (simp only [List.length_drop, List.length_take]; rfl)) ?_; (with_reducible refine (laws_toRunnerS.calls kj8 _ _ l1 t155 _ ?side1 ?side2 A18.out).mono ?_); (case side1 => repeat (first | exact (Kd.C_below HR1.out HB.out) | (with_reducible refine Kd.C_alloc ?_ _) | (with_reducible refine Kd.C_drewN ?_ _) | (with_reducible refine Kd.C_drew ?_))); (case side2 => exact HC1.out); rintro e w24 ⟨v156, rfl, ho0, hb⟩; refine ⟨_, rfl, ?_⟩; have n0_ := Aside0.mk (Kd.R_elder' (by (with_reducible repeat (first | apply Kd.R_alloc | apply Kd.R_drewN | apply Kd.R_drew)); exact HO_8.out) (Kd.R_base ho0) hb); have n1_ := Aside0.mk (Kd.R_lower (Kd.R_new' ho0 (Kd.R_lt (by (with_reducible repeat (first | apply Kd.R_alloc | apply Kd.R_drewN | apply Kd.R_drew)); exact HO_8.out))) (below_size (by repeat (first | (with_reducible first | exact HB.out | apply below_alloc | apply pw_below_drewN | apply below_drew1) | exact HB.out)))); have n2_ := Aside0.mk (below_step (by repeat (first | (with_reducible first | exact HB.out | apply below_alloc | apply pw_below_drewN | apply below_drew1) | exact HB.out)) hb); clear HO_8; clear HB; have HO_8 := n0_; have HO157 := n1_; have HB := n2_; clear n0_ n1_ n2_; (try clear hb); (try clear hb2); (try clear hk); (try clear hi); (try clear ho0); obtain ⟨Ao25, co25, eo25⟩ := Kd.R_slice HO157.out; subst eo25) | ((with_reducible refine gate_callee (f := 19) rfl ?_); refine goesL_ (some 42) rfl rfl Try.func19 (by kernel_rfl) rfl #[.slice Ao14 t150.length co14, .slice Ao25 t155.length co25] rfl (by (try simp only [List.map_toArray, List.map_cons, List.map_nil]); first | done | rfl | (simp only [List.length_drop, List.length_take]; rfl)) ?_; (with_reducible refine (laws_eqRunnerS.calls kj8 _ _ t150 _ _ t155 false _ ?side1 ?side2 ?side3 ?side4 A19.out).mono ?_); (case side1 => repeat (first | exact (Kd.R_reads' HO_8.out).2.2 | (with_reducible refine Kd.C_alloc ?_ _) | (with_reducible refine Kd.C_drewN ?_ _) | (with_reducible refine Kd.C_drew ?_))); (case side2 => exact (Kd.R_reads' HO_8.out).2.1); (case side3 => repeat (first | exact (Kd.R_reads' HO157.out).2.2 | (with_reducible refine Kd.C_alloc ?_ _) | (with_reducible refine Kd.C_drewN ?_ _) | (with_reducible refine Kd.C_drew ?_))); (case side4 => exact (Kd.R_reads' HO157.out).2.1); rintro e w26 ⟨rfl, hb⟩; refine ⟨_, rfl, ?_⟩; have n0_ := Aside0.mk (Kd.R_below (by (with_reducible repeat (first | apply Kd.R_alloc | apply Kd.R_drewN | apply Kd.R_drew)); exact HO_8.out) hb); have n1_ := Aside0.mk (Kd.R_below (by (with_reducible repeat (first | apply Kd.R_alloc | apply Kd.R_drewN | apply Kd.R_drew)); exact HO157.out) hb); have n2_ := Aside0.mk (below_step (by repeat (first | (with_reducible first | exact HB.out | apply below_alloc | apply pw_below_drewN | apply below_drew1) | exact HB.out)) hb); clear HO_8; clear HO157; clear HB; have HO_8 := n0_; have HO157 := n1_; have HB := n2_; clear n0_ n1_ n2_; (try clear hb); (try clear hb2); (try clear hk); (try clear hi)))
            go_ret
            exact ⟨by first | rfl | (simp [errW_none, errW_some] <;> rfl) | (simp [*, errW_none, errW_some] <;> rfl), by repeat (first | (with_reducible first | exact HB.out | apply below_alloc | apply pw_below_drewN | apply below_drew1) | exact HB.out)⟩

end Go.Proofs.Ytkehnndlladnlaa.PFnExactAllRunnersTogether
