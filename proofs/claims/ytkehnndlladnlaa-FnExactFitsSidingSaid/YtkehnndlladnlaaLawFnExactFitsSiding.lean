/- The row of the law FnExactFitsSiding: it returns true for every input (no condition); joined out of the printed walk and the pure law. -/
import Derived.Test.YtkehnndlladnlaaRows
import Derived.Test.YtkehnndlladnlaaPFnExactFitsSidingx2
import Derived.Test.YtkehnndlladnlaaPureFnExactFitsSiding
import Derived.WalkKit
import Derived.ProofKit
import Derived.OpenShut
import Derived.ShutString
import Derived.ChangeOld
import Derived.Below
import Derived.SizedLaws
import Derived.Lib.SmallJoins
import Derived.Deep.SlicePairs
namespace Go.Proofs.Ytkehnndlladnlaa.fnExactFitsSiding
open Go.ChangeShapes Go.WideShapes Go.ChangeAt Go.RowKit Go.Joins Go.Proofs.Ytkehnndlladnlaa.PFnExactFitsSiding Go.Proofs.YtkehnndlladnlaaW.PrintWords Go.Proofs.YtkehnndlladnlaaW.PrintLast Go.Proofs.YtkehnndlladnlaaW.PrintMore
open Go.ChangeMaps (open_string shut_string)
set_option linter.unusedVariables false
set_option linter.unusedSimpArgs false
theorem own : ownKnob Try.prog.godebug = none := by kernel_rfl
theorem laidOut : laidOutB Try.prog = true := by kernel_rfl
theorem cells72 : Try.prog.cellsOf 72 = 2 := by kernel_rfl
/-- a row of structs out of its cells -/
theorem kC_of_cells72 (W : World) (x : Addr) (n : Nat) (f : Nat → S72) (hn : n ≤ 9223372036854775807) (h : ∀ j, j < n → W.cell? (x.add (j * 2)) = some (.int .i64 (f j).f0) ∧ W.cell? (x.add (j * 2 + 1)) = some (.int .i64 (f j).f1)) :
    Kd.C k72 W (some x) ((List.range n).map f).length ((List.range n).map f) := by
  refine ⟨rfl, by simpa using hn, fun h0 => ⟨x, rfl, fun j p hp => ?_⟩⟩
  have hj : j < n := by
    have := List.getElem?_eq_some_iff.mp hp
    obtain ⟨q, _⟩ := this
    simpa using q
  have e : p = f j := by
    rw [List.getElem?_map, List.getElem?_range hj] at hp
    exact (Option.some.inj hp).symm
  subst e
  refine ⟨[.int .i64 (f j).f0, .int .i64 (f j).f1], rfl, k72_mk W (f j), fun i u hu => ?_⟩
  match i, hu with
  | 0, hu =>
    obtain rfl := Option.some.inj hu
    exact (h j hj).1
  | 1, hu =>
    obtain rfl := Option.some.inj hu
    exact (h j hj).2
set_option maxHeartbeats 1000000 in
set_option maxRecDepth 100000 in
theorem lifted (os : Os) (started : os.Started) (H : Type) (enc : TypeId × Value → H) :
    ReturnsInHanded {} Try.checked os 6 .any (Rows.fnExactFitsSidingSpec.pre6 enc Try.prog Try.f6 Rows.fnExactFitsSidingRow.domain false) (Rows.fnExactFitsSidingSpec.post enc Try.prog Try.f6 false true false false) := by
  refine returnsInHanded_of_change_sized (C := Try.checked) own started (by kernel_rfl) Try.func6
    (ChangeSpec.witness6 (enc := enc) (C := Try.checked) false ⟨#[], #[.slice none 0 0, .int .i64 0], []⟩ 8 (by kernel_rfl) (by kernel_rfl) (by kernel_rfl) (by kernel_rfl)) ?_
  intro W base args ds gs before hval0 hW hcnd hsz0 _
  have hsz : (DataW.weightsEach Try.prog (Try.f6.params.toList ++ Rows.fnExactFitsSidingSpec.plain.varTypes Try.prog) (ds ++ gs)).all (· ≤ reachBytes) = true := hsz0
  have hval : ∀ (j : Nat) t v, Try.f6.params[j]? = some t → args[j]? = some v → Value.okWide Try.prog W .any base t v := hval0
  have hW' := hW
  obtain ⟨p, q, hA0, hV, rfl, hfz, hnd⟩ := hW
  have hA : DataW.TrodAll enc Try.prog W 0 (fun _ => true) true Try.f6.params.toList args.toList ds p := hA0
  rw [Try.params6] at hA hval hsz
  obtain ⟨v0, vs0, d0, ds0, p0, q0, hargs, rfl, rfl, h0, r0⟩ := trodAll_cons hA
  obtain ⟨v1, vs1, d1, ds1, p1, q1, rfl, rfl, rfl, h1, r1⟩ := trodAll_cons r0
  obtain ⟨rfl, rfl, rfl⟩ := trodAll_nil r1
  obtain rfl : args = #[v0, v1] := by cases args; simp_all
  obtain ⟨rfl, rfl⟩ := trodVars_none hV
  obtain ⟨a0, len0, cap0, rfl⟩ := okWide_slice Try.underlying41 (hval 0 41 v0 rfl rfl)
  have k0 := h0
  have lt0 : ∀ x ∈ p0, x.block < W.heap.size := by obtain ⟨m, hm⟩ := k0; exact DataW.trod_lt m _ _ _ hm
  obtain ⟨l0, rfl, hc0, hr0⟩ : ∃ l : List S72, len0 = l.length ∧ l.length ≤ cap0 ∧ Kd.C k72 W a0 l.length l := by
    obtain ⟨fuel, hf⟩ := h0
    rcases Go.Deep.open_slice_pairs Try.underlying41 Try.underlying72 cells72 rfl rfl (by kernel_rfl) (by kernel_rfl) hf with ⟨hcs, _⟩ | ⟨x, l, c, m, n, V0, V1, D0, D1, P0, P1, hcs, _, hl, hm, hmm, _, hcell⟩
    · simp [Value.cells] at hcs
      obtain ⟨rfl, rfl, rfl⟩ := hcs
      exact ⟨[], rfl, Nat.le_refl _, Kd.C_nil _ _⟩
    · simp [Value.cells] at hcs
      obtain ⟨e1, e2, e3⟩ := hcs
      have hlm : len0 ≤ m := by rw [e2, hmm]; split <;> omega
      have each : ∀ j, ∃ q : Int × Int, j < len0 → W.cell? (x.add (j * 2)) = some (.int .i64 q.1) ∧ W.cell? (x.add (j * 2 + 1)) = some (.int .i64 q.2) := by
        intro j
        by_cases hj : j < len0
        · obtain ⟨z0, z1, z2, z3⟩ := hcell j (by omega)
          obtain ⟨q0, e0, _, _⟩ := DataW.trod_int Try.underlying3 z2
          obtain ⟨q1, e1, _, _⟩ := DataW.trod_int Try.underlying3 z3
          rw [show V0 j = .int .i64 q0 by simpa using e0] at z0
          rw [show V1 j = .int .i64 q1 by simpa using e1] at z1
          exact ⟨(q0, q1), fun _ => ⟨z0, z1⟩⟩
        · exact ⟨(0, 0), fun h => absurd h hj⟩
      obtain ⟨q, hq⟩ := Classical.axiomOfChoice each
      unfold maxLen at hm
      refine ⟨(List.range len0).map fun j => ⟨(q j).1, (q j).2⟩, by simp, by simp only [List.length_map, List.length_range]; omega, ?_⟩
      rw [e1]
      exact kC_of_cells72 W x len0 (fun j => ⟨(q j).1, (q j).2⟩) (by omega) fun j hj => hq j hj
  obtain ⟨a1, rfl, rfl, rfl, w1⟩ := open_int Try.underlying3 (hval 1 3 v1 rfl rfl) h1
  clear hA0 hval0 hsz0 hsz
  obtain ⟨k, hk⟩ := QFnExactFitsSiding.holds l0 a1 (Kd.C_max hr0) w1
  refine (PFnExactFitsSiding.laws_FnExactFitsSiding.calls k a0 cap0 l0 a1 true W hr0 hc0 hk).mono fun e W' ⟨he, bel⟩ => ?_
  subst he
  exact ⟨_, rfl, _, _, _, [], _, [], hW', trodAll_mk1 (shut_bool Try.underlying4 _), (trodAll_cons_mk (Below.trod laidOut (by kernel_rfl) (of_decide_eq_true (by kernel_rfl)) k0 bel lt0) (trodAll_cons_mk (shut_int Try.underlying3 w1) trodAll_mk0)), rfl, bel.frame _, fun h => by cases h⟩
theorem over : Rows.fnExactFitsSidingRow.holds Try.pinned (OpenSpec.ofChange Rows.fnExactFitsSidingSpec) :=
  OpenClaim.holds_of_wide 6 Try.f6 rfl rfl rfl rfl rfl rfl rfl ⟨rfl, rfl, rfl, rfl, rfl⟩ rfl rfl rfl rfl rfl (by kernel_rfl) Try.func6 (by kernel_rfl)
    (of_decide_eq_true (by kernel_rfl)) (by unfold Func.isWrapper; first | (rw [if_pos (by decide +kernel)]; kernel_rfl) | (rw [if_neg (by decide +kernel)]; exact ⟨rfl, rfl⟩))
    (fun os started H enc _ => lifted os started H enc)
theorem proved : Rows.FnExactFitsSidingSaid := over
#print axioms proved
end Go.Proofs.Ytkehnndlladnlaa.fnExactFitsSiding
namespace Go.Proofs.Ytkehnndlladnlaa
/-- The row, under a short name, for the claim. -/
theorem fnExactFitsSiding_holds : Rows.FnExactFitsSidingSaid := fnExactFitsSiding.proved
end Go.Proofs.Ytkehnndlladnlaa
