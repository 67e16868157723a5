/- The row of the law FnExactRunnersText: it returns true for every input (no condition); joined out of the printed walk and the pure law. -/
import Derived.Test.YtiokkigigcjnpaaDoorRows
import Derived.Test.YtiokkigigcjnpaaDoorCards
import Derived.Test.YtiokkigigcjnpaaDoorTie
import Derived.Test.YtiokkigigcjnpaaDoorPFnExactRunnersTextx4
import Derived.Test.YtiokkigigcjnpaaDoorPureFnExactRunnersText
import Derived.WalkKit
import Derived.ProofKit
import Derived.OpenShut
import Derived.ShutString
import Derived.ChangeOld
import Derived.Below
import Derived.SizedLaws
import Derived.Lib.SmallJoins
import Derived.Deep.SlicePairs
import Derived.LaidMore
import Derived.Lay
import Derived.SevenTiedAt
import Derived.Stop.Joined
import Derived.Stop.LaidErr
import Derived.Lib.LaidTab
import Derived.Shelf.Vars
namespace Go.Proofs.YtiokkigigcjnpaaDoor.fnExactRunnersText
open Go.ChangeShapes Go.WideShapes Go.ChangeAt Go.RowKit Go.Joins Go.Proofs.YtiokkigigcjnpaaDoor.PFnExactRunnersText Go.Proofs.YtiokkigigcjnpaaDoorW.PrintWords Go.Proofs.YtiokkigigcjnpaaDoorW.PrintLast Go.Proofs.YtiokkigigcjnpaaDoorW.PrintMore
open Go.ChangeMaps (open_string shut_string)
set_option linter.unusedVariables false
set_option linter.unusedSimpArgs false
theorem own : ownKnob Tryd.prog.godebug = none := by kernel_rfl
abbrev laidOf := Rows.fnExactRunnersTextRow.laid
/-- the builder, with what is listed and the world's shape handed on -/
theorem returns_listed {H : Type} {enc : TypeId × Value → H} {a : Assume} {C : Checked} {os : Os} {f : FuncId} {fn : Func} {s : ChangeSpec} {conds : List PathCond} {apart fresh handsOn again : Bool} {X : World → Prop}
    (hX : ∀ w w' : World, w.heap = w'.heap → X w → X w') (own : ownKnob C.prog.godebug = none) (started : os.Started) (noInit : C.prog.inits.idxOf? f = none) (hfn : C.prog.funcs[f]? = some fn)
    (witness : ∃ (w : World) (tape : Tape) (i : Input), w.os = os ∧ (w.forCall tape i).Shaped C.prog ∧ i.vars = [] ∧ Input.okWide C.prog (w.forCall tape i) .any w.heap.size f i ∧
      ((s.pre enc C.prog fn conds apart (w.forCall tape i).memory i.args ∧ X (w.forCall tape i).memory) ∧ sizedMet enc C.prog fn (OpenSpec.ofChange s) apart (w.forCall tape i).memory i.args) ∧ a.holds C.prog (lone (Frame.enter C.prog f i.args .normal) [] (w.forCall tape i)))
    (contract : ∀ (W : World) (base : Nat) (args : Array Value) (ds gs : List (DataW H)) (before : List MemPlace),
      (∀ (j : Nat) t v, fn.params[j]? = some t → args[j]? = some v → Value.okWide C.prog W .any base t v) → DataW.Whole enc C.prog fn.params.toList s.vars apart W args.toList ds gs before →
      (DataW.weightsEach C.prog (fn.params.toList ++ s.plain.varTypes C.prog) (ds ++ gs)).all (· ≤ reachBytes) = true → X W → W.ShapedOpen C.prog →
      Calls C.prog f args W fun e W' => ∃ v, e = .returned v ∧ s.post enc C.prog fn apart fresh handsOn again W args v W') :
    ReturnsInHanded a C os f .any (fun w args => (s.pre enc C.prog fn conds apart w args ∧ X w) ∧ sizedMet enc C.prog fn (OpenSpec.ofChange s) apart w args) (s.post enc C.prog fn apart fresh handsOn again) := by
  refine returnsInHanded_of_calls own started noInit witness ?_
  intro w tape i _ hshape _ hok hpre _
  obtain ⟨_, _, _, fn2, hfn2, _, _, _, _, hval⟩ := hok
  have e : fn2 = fn := Option.some.inj (hfn2.symm.trans hfn)
  subst e
  obtain ⟨⟨⟨ds, gs, before, hw, _⟩, hx⟩, hz⟩ := hpre
  refine (contract (w.forCall tape i) w.heap.size i.args ds gs before hval (DataW.Whole.of_heap (w' := w.forCall tape i) (by rfl) hw) (hz.weights hw) (hX _ _ (by rfl) hx) hshape).mono fun e W' ⟨v, he, hp⟩ => ?_
  subst he
  exact ChangeSpec.post_blind hp
theorem laidT {W : World} (h : laidMetH Tryd.prog laidOf W) : LaidT W := by
  have hL' : laidMet Tryd.prog laidOf W := by rw [MakeChecks.laidMetH_plain _ _ _ (by kernel_rfl)] at h; exact h
  exact Lib.tabIs_of_head (g := 1) (t := 108) (e := 94) (n := 20) (by kernel_rfl) (by kernel_rfl) Tryd.underlying108 Tryd.underlying94 (by kernel_rfl) (by kernel_rfl) hL'.tail.tail
theorem laidOut : laidOutB Tryd.prog = true := by kernel_rfl
theorem cells52 : Tryd.prog.cellsOf 52 = 2 := by kernel_rfl
/-- a row of structs out of its cells -/
theorem kC_of_cells52 (W : World) (x : Addr) (n : Nat) (f : Nat → S52) (hn : n ≤ 9223372036854775807) (h : ∀ j, j < n → W.cell? (x.add (j * 2)) = some (.int .i64 (f j).f0) ∧ W.cell? (x.add (j * 2 + 1)) = some (.int .i64 (f j).f1)) :
    Kd.C k52 W (some x) ((List.range n).map f).length ((List.range n).map f) := by
  refine ⟨rfl, by simpa using hn, fun h0 => ⟨x, rfl, fun j p hp => ?_⟩⟩
  have hj : j < n := by
    have := List.getElem?_eq_some_iff.mp hp
    obtain ⟨q, _⟩ := this
    simpa using q
  have e : p = f j := by
    rw [List.getElem?_map, List.getElem?_range hj] at hp
    exact (Option.some.inj hp).symm
  subst e
  refine ⟨[.int .i64 (f j).f0, .int .i64 (f j).f1], rfl, k52_mk W (f j), fun i u hu => ?_⟩
  match i, hu with
  | 0, hu =>
    obtain rfl := Option.some.inj hu
    exact (h j hj).1
  | 1, hu =>
    obtain rfl := Option.some.inj hu
    exact (h j hj).2
set_option maxHeartbeats 1000000 in
set_option maxRecDepth 100000 in
theorem lifted (os : Os) (started : os.Started) (H : Type) (enc : TypeId × Value → H) :
    ReturnsInHanded {} Tryd.checked os 4 .any (fun w args => (Rows.fnExactRunnersTextSpec.pre enc Tryd.prog Tryd.f4 Rows.fnExactRunnersTextRow.domain false w args ∧ laidMetH Tryd.prog laidOf w) ∧ sizedMet enc Tryd.prog Tryd.f4 (OpenSpec.ofChange Rows.fnExactRunnersTextSpec) false w args) (Rows.fnExactRunnersTextSpec.post enc Tryd.prog Tryd.f4 false true false false) := by
  refine returns_listed (C := Tryd.checked) (X := fun w => laidMetH Tryd.prog laidOf w) (fun _ _ hh h => h.of_heap hh) own started (by kernel_rfl) Tryd.func4
    (ChangeSpec.witness_shaped (enc := enc) (C := Tryd.checked) (os := os) (X := fun w _ => laidMetH Tryd.prog laidOf w) false (World.laidAll Tryd.prog os laidOf) #[.slice none 0 0] 8 (World.laidAll_os _ _ _)
      (World.shaped_of_ZipB (by kernel_rfl) (by kernel_rfl)) (by kernel_rfl) (by kernel_rfl) (by kernel_rfl)
      (by rw [MakeChecks.laidMetH_plain _ _ _ (by kernel_rfl)]; exact laidMet_laidAll _ (by kernel_rfl) (by kernel_rfl))) ?_
  intro W base args ds gs before hval0 hW hsz0 hL hsh
  have hsz : (DataW.weightsEach Tryd.prog (Tryd.f4.params.toList ++ Rows.fnExactRunnersTextSpec.plain.varTypes Tryd.prog) (ds ++ gs)).all (· ≤ reachBytes) = true := hsz0
  have hval : ∀ (j : Nat) t v, Tryd.f4.params[j]? = some t → args[j]? = some v → Value.okWide Tryd.prog W .any base t v := hval0
  have hW' := hW
  obtain ⟨p, q, hA0, hV, rfl, hfz, hnd⟩ := hW
  have hA : DataW.TrodAll enc Tryd.prog W 0 (fun _ => true) true Tryd.f4.params.toList args.toList ds p := hA0
  rw [Tryd.params4] at hA hval hsz
  obtain ⟨v0, vs0, d0, ds0, p0, q0, hargs, rfl, rfl, h0, r0⟩ := trodAll_cons hA
  obtain ⟨rfl, rfl, rfl⟩ := trodAll_nil r0
  obtain rfl : args = #[v0] := by cases args; simp_all
  obtain ⟨rfl, rfl⟩ := trodVars_none hV
  obtain ⟨a0, len0, cap0, rfl⟩ := okWide_slice Tryd.underlying29 (hval 0 29 v0 rfl rfl)
  have k0 := h0
  have lt0 : ∀ x ∈ p0, x.block < W.heap.size := by obtain ⟨m, hm⟩ := k0; exact DataW.trod_lt m _ _ _ hm
  obtain ⟨l0, rfl, hc0, hr0⟩ : ∃ l : List S52, len0 = l.length ∧ l.length ≤ cap0 ∧ Kd.C k52 W a0 l.length l := by
    obtain ⟨fuel, hf⟩ := h0
    rcases Go.Deep.open_slice_pairs Tryd.underlying29 Tryd.underlying52 cells52 rfl rfl (by kernel_rfl) (by kernel_rfl) hf with ⟨hcs, _⟩ | ⟨x, l, c, m, n, V0, V1, D0, D1, P0, P1, hcs, _, hl, hm, hmm, _, hcell⟩
    · simp [Value.cells] at hcs
      obtain ⟨rfl, rfl, rfl⟩ := hcs
      exact ⟨[], rfl, Nat.le_refl _, Kd.C_nil _ _⟩
    · simp [Value.cells] at hcs
      obtain ⟨e1, e2, e3⟩ := hcs
      have hlm : len0 ≤ m := by rw [e2, hmm]; split <;> omega
      have each : ∀ j, ∃ q : Int × Int, j < len0 → W.cell? (x.add (j * 2)) = some (.int .i64 q.1) ∧ W.cell? (x.add (j * 2 + 1)) = some (.int .i64 q.2) := by
        intro j
        by_cases hj : j < len0
        · obtain ⟨z0, z1, z2, z3⟩ := hcell j (by omega)
          obtain ⟨q0, e0, _, _⟩ := DataW.trod_int Tryd.underlying3 z2
          obtain ⟨q1, e1, _, _⟩ := DataW.trod_int Tryd.underlying3 z3
          rw [show V0 j = .int .i64 q0 by simpa using e0] at z0
          rw [show V1 j = .int .i64 q1 by simpa using e1] at z1
          exact ⟨(q0, q1), fun _ => ⟨z0, z1⟩⟩
        · exact ⟨(0, 0), fun h => absurd h hj⟩
      obtain ⟨q, hq⟩ := Classical.axiomOfChoice each
      unfold maxLen at hm
      refine ⟨(List.range len0).map fun j => ⟨(q j).1, (q j).2⟩, by simp, by simp only [List.length_map, List.length_range]; omega, ?_⟩
      rw [e1]
      exact kC_of_cells52 W x len0 (fun j => ⟨(q j).1, (q j).2⟩) (by omega) fun j hj => hq j hj
  have hLD := laidT hL
  clear hA0 hval0 hsz0 hsz hL hsh
  obtain ⟨k, hk⟩ := QFnExactRunnersText.holds l0 (Kd.C_max hr0)
  refine (PFnExactRunnersText.laws_FnExactRunnersText.calls k a0 cap0 l0 true W hr0 hc0 hk hLD).mono fun e W' ⟨he, bel⟩ => ?_
  subst he
  exact ⟨_, rfl, _, _, _, [], _, [], hW', trodAll_mk1 (shut_bool Tryd.underlying4 _), (trodAll_cons_mk (Below.trod laidOut (by kernel_rfl) (of_decide_eq_true (by kernel_rfl)) k0 bel lt0) trodAll_mk0), rfl, bel.frame _, fun h => by cases h⟩
theorem over : Rows.fnExactRunnersTextRow.holds Tryd.pinned (OpenSpec.ofChange Rows.fnExactRunnersTextSpec) :=
  OpenClaim.holds_of_wide 4 Tryd.f4 rfl rfl rfl rfl rfl rfl rfl ⟨rfl, rfl, rfl, rfl, rfl⟩ rfl rfl rfl rfl rfl (by kernel_rfl) Tryd.func4 (by kernel_rfl)
    (of_decide_eq_true (by kernel_rfl)) (by unfold Func.isWrapper; first | (rw [if_pos (by decide +kernel)]; kernel_rfl) | (rw [if_neg (by decide +kernel)]; exact ⟨rfl, rfl⟩))
    (fun os started H enc _ => lifted os started H enc)
theorem proved : Rows.FnExactRunnersTextCardSaid :=
  Claim7.holds_tied_plain_at .later [] [.data, .data, .data] true (true, "d7f13bce7dfbda1b218977c276c523f6692648b885b5d1271db2aaf36c1fba20") true over (fun _ h => by cases h) (by kernel_rfl) (fun _ h => by cases h) fnExactRunnersText_row_tie rfl ⟨rfl, rfl⟩ (by kernel_rfl) rfl
    (fun f fn hf hfn => by
      obtain rfl : f = 4 := Option.some.inj ((show Tryd.prog.funcNamed "loop.example/g01335/laws.FnExactRunnersText" = some 4 by kernel_rfl).symm.trans hf) |>.symm
      obtain rfl : fn = Tryd.f4 := (Option.some.inj (Tryd.func4.symm.trans hfn)).symm
      exact ⟨by kernel_rfl, fun j t ht => by
        rw [Tryd.params4] at ht
        have hm : t ∈ [29] := by simpa using Array.mem_of_getElem? ht
        have hall : ([29].all fun u => !Tryd.prog.wantsStandIn u) = true := by kernel_rfl
        exact (show Tryd.prog.wantsStandIn t = false by simpa using List.all_eq_true.1 hall t hm)⟩)
    (by kernel_rfl)
#print axioms proved
end Go.Proofs.YtiokkigigcjnpaaDoor.fnExactRunnersText
namespace Go.Proofs.YtiokkigigcjnpaaDoor
/-- The card, under a short name, for the claim. -/
theorem fnExactRunnersText_holds : Rows.FnExactRunnersTextCardSaid := fnExactRunnersText.proved
end Go.Proofs.YtiokkigigcjnpaaDoor
