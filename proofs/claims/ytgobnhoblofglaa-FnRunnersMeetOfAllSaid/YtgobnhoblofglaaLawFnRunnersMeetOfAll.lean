/- The row of the law FnRunnersMeetOfAll: it returns true for every input (no condition); joined out of the printed walk and the pure law. -/
import Derived.Test.YtgobnhoblofglaaRows
import Derived.Test.YtgobnhoblofglaaPFnRunnersMeetOfAllx17
import Derived.Test.YtgobnhoblofglaaPureFnRunnersMeetOfAll
import Derived.WalkKit
import Derived.ProofKit
import Derived.OpenShut
import Derived.ShutString
import Derived.ChangeOld
import Derived.Below
import Derived.SizedLaws
import Derived.Lib.SmallJoins
import Derived.Deep.SlicePairs
namespace Go.Proofs.Ytgobnhoblofglaa.fnRunnersMeetOfAll
open Go.ChangeShapes Go.WideShapes Go.ChangeAt Go.RowKit Go.Joins Go.Proofs.Ytgobnhoblofglaa.PFnRunnersMeetOfAll Go.Proofs.YtgobnhoblofglaaW.PrintWords Go.Proofs.YtgobnhoblofglaaW.PrintLast Go.Proofs.YtgobnhoblofglaaW.PrintMore
open Go.ChangeMaps (open_string shut_string)
set_option linter.unusedVariables false
set_option linter.unusedSimpArgs false
theorem own : ownKnob Try.prog.godebug = none := by kernel_rfl
theorem laidOut : laidOutB Try.prog = true := by kernel_rfl
theorem cells45 : Try.prog.cellsOf 45 = 2 := by kernel_rfl
/-- a row of structs out of its cells -/
theorem kC_of_cells45 (W : World) (x : Addr) (n : Nat) (f : Nat → S45) (hn : n ≤ 9223372036854775807) (h : ∀ j, j < n → W.cell? (x.add (j * 2)) = some (.int .i64 (f j).f0) ∧ W.cell? (x.add (j * 2 + 1)) = some (.int .i64 (f j).f1)) :
    Kd.C k45 W (some x) ((List.range n).map f).length ((List.range n).map f) := by
  refine ⟨rfl, by simpa using hn, fun h0 => ⟨x, rfl, fun j p hp => ?_⟩⟩
  have hj : j < n := by
    have := List.getElem?_eq_some_iff.mp hp
    obtain ⟨q, _⟩ := this
    simpa using q
  have e : p = f j := by
    rw [List.getElem?_map, List.getElem?_range hj] at hp
    exact (Option.some.inj hp).symm
  subst e
  refine ⟨[.int .i64 (f j).f0, .int .i64 (f j).f1], rfl, k45_mk W (f j), fun i u hu => ?_⟩
  match i, hu with
  | 0, hu =>
    obtain rfl := Option.some.inj hu
    exact (h j hj).1
  | 1, hu =>
    obtain rfl := Option.some.inj hu
    exact (h j hj).2
set_option maxHeartbeats 1000000 in
set_option maxRecDepth 100000 in
theorem lifted (os : Os) (started : os.Started) (H : Type) (enc : TypeId × Value → H) :
    ReturnsInHanded {} Try.checked os 5 .any (Rows.fnRunnersMeetOfAllSpec.pre6 enc Try.prog Try.f5 Rows.fnRunnersMeetOfAllRow.domain false) (Rows.fnRunnersMeetOfAllSpec.post enc Try.prog Try.f5 false true false false) := by
  refine returnsInHanded_of_change_sized (C := Try.checked) own started (by kernel_rfl) Try.func5
    (ChangeSpec.witness6 (enc := enc) (C := Try.checked) false ⟨#[], #[.int .i64 0, .agg #[.int .i64 0, .int .i64 0], .agg #[.int .i64 0, .int .i64 0], .int .i64 0, .int .i64 0, .slice none 0 0], []⟩ 8 (by kernel_rfl) (by kernel_rfl) (by kernel_rfl) (by kernel_rfl)) ?_
  intro W base args ds gs before hval0 hW hcnd hsz0 _
  have hsz : (DataW.weightsEach Try.prog (Try.f5.params.toList ++ Rows.fnRunnersMeetOfAllSpec.plain.varTypes Try.prog) (ds ++ gs)).all (· ≤ reachBytes) = true := hsz0
  have hval : ∀ (j : Nat) t v, Try.f5.params[j]? = some t → args[j]? = some v → Value.okWide Try.prog W .any base t v := hval0
  have hW' := hW
  obtain ⟨p, q, hA0, hV, rfl, hfz, hnd⟩ := hW
  have hA : DataW.TrodAll enc Try.prog W 0 (fun _ => true) true Try.f5.params.toList args.toList ds p := hA0
  rw [Try.params5] at hA hval hsz
  obtain ⟨v0, vs0, d0, ds0, p0, q0, hargs, rfl, rfl, h0, r0⟩ := trodAll_cons hA
  obtain ⟨v1, vs1, d1, ds1, p1, q1, rfl, rfl, rfl, h1, r1⟩ := trodAll_cons r0
  obtain ⟨v2, vs2, d2, ds2, p2, q2, rfl, rfl, rfl, h2, r2⟩ := trodAll_cons r1
  obtain ⟨v3, vs3, d3, ds3, p3, q3, rfl, rfl, rfl, h3, r3⟩ := trodAll_cons r2
  obtain ⟨v4, vs4, d4, ds4, p4, q4, rfl, rfl, rfl, h4, r4⟩ := trodAll_cons r3
  obtain ⟨v5, vs5, d5, ds5, p5, q5, rfl, rfl, rfl, h5, r5⟩ := trodAll_cons r4
  obtain ⟨rfl, rfl, rfl⟩ := trodAll_nil r5
  obtain rfl : args = #[v0, v1, v2, v3, v4, v5] := by cases args; simp_all
  obtain ⟨rfl, rfl⟩ := trodVars_none hV
  obtain ⟨a0, rfl, rfl, rfl, w0⟩ := open_int Try.underlying3 (hval 0 3 v0 rfl rfl) h0
  obtain ⟨c1_0, c1_1, y1_0, y1_1, m1, rfl, rfl, rfl, hy1_0, hy1_1⟩ := open_agg2 Try.underlying45 (by kernel_rfl) cells45 (hval 1 45 v1 rfl rfl) h1
  obtain ⟨a1_0, e1_0, rfl, w1_0⟩ := DataW.trod_int Try.underlying3 hy1_0
  obtain ⟨a1_1, e1_1, rfl, w1_1⟩ := DataW.trod_int Try.underlying3 hy1_1
  simp at e1_0 e1_1
  subst e1_0 e1_1
  obtain ⟨c2_0, c2_1, y2_0, y2_1, m2, rfl, rfl, rfl, hy2_0, hy2_1⟩ := open_agg2 Try.underlying45 (by kernel_rfl) cells45 (hval 2 45 v2 rfl rfl) h2
  obtain ⟨a2_0, e2_0, rfl, w2_0⟩ := DataW.trod_int Try.underlying3 hy2_0
  obtain ⟨a2_1, e2_1, rfl, w2_1⟩ := DataW.trod_int Try.underlying3 hy2_1
  simp at e2_0 e2_1
  subst e2_0 e2_1
  obtain ⟨a3, rfl, rfl, rfl, w3⟩ := open_int Try.underlying3 (hval 3 3 v3 rfl rfl) h3
  obtain ⟨a4, rfl, rfl, rfl, w4⟩ := open_int Try.underlying3 (hval 4 3 v4 rfl rfl) h4
  obtain ⟨a5, len5, cap5, rfl⟩ := okWide_slice Try.underlying37 (hval 5 37 v5 rfl rfl)
  have k5 := h5
  have lt5 : ∀ x ∈ p5, x.block < W.heap.size := by obtain ⟨m, hm⟩ := k5; exact DataW.trod_lt m _ _ _ hm
  obtain ⟨l5, rfl, hc5, hr5⟩ : ∃ l : List S45, len5 = l.length ∧ l.length ≤ cap5 ∧ Kd.C k45 W a5 l.length l := by
    obtain ⟨fuel, hf⟩ := h5
    rcases Go.Deep.open_slice_pairs Try.underlying37 Try.underlying45 cells45 rfl rfl (by kernel_rfl) (by kernel_rfl) hf with ⟨hcs, _⟩ | ⟨x, l, c, m, n, V0, V1, D0, D1, P0, P1, hcs, _, hl, hm, hmm, _, hcell⟩
    · simp [Value.cells] at hcs
      obtain ⟨rfl, rfl, rfl⟩ := hcs
      exact ⟨[], rfl, Nat.le_refl _, Kd.C_nil _ _⟩
    · simp [Value.cells] at hcs
      obtain ⟨e1, e2, e3⟩ := hcs
      have hlm : len5 ≤ m := by rw [e2, hmm]; split <;> omega
      have each : ∀ j, ∃ q : Int × Int, j < len5 → W.cell? (x.add (j * 2)) = some (.int .i64 q.1) ∧ W.cell? (x.add (j * 2 + 1)) = some (.int .i64 q.2) := by
        intro j
        by_cases hj : j < len5
        · obtain ⟨z0, z1, z2, z3⟩ := hcell j (by omega)
          obtain ⟨q0, e0, _, _⟩ := DataW.trod_int Try.underlying3 z2
          obtain ⟨q1, e1, _, _⟩ := DataW.trod_int Try.underlying3 z3
          rw [show V0 j = .int .i64 q0 by simpa using e0] at z0
          rw [show V1 j = .int .i64 q1 by simpa using e1] at z1
          exact ⟨(q0, q1), fun _ => ⟨z0, z1⟩⟩
        · exact ⟨(0, 0), fun h => absurd h hj⟩
      obtain ⟨q, hq⟩ := Classical.axiomOfChoice each
      unfold maxLen at hm
      refine ⟨(List.range len5).map fun j => ⟨(q j).1, (q j).2⟩, by simp, by simp only [List.length_map, List.length_range]; omega, ?_⟩
      rw [e1]
      exact kC_of_cells45 W x len5 (fun j => ⟨(q j).1, (q j).2⟩) (by omega) fun j hj => hq j hj
  clear hA0 hval0 hsz0 hsz
  obtain ⟨k, hk⟩ := QFnRunnersMeetOfAll.holds a0 a1_0 a1_1 a2_0 a2_1 a3 a4 l5 w0 w1_0 w1_1 w2_0 w2_1 w3 w4 (Kd.C_max hr5)
  refine (PFnRunnersMeetOfAll.laws_FnRunnersMeetOfAll.calls k a0 a1_0 a1_1 a2_0 a2_1 a3 a4 a5 cap5 l5 true W hr5 hc5 hk rfl).mono fun e W' ⟨he, bel⟩ => ?_
  subst he
  exact ⟨_, rfl, _, _, _, [], _, [], hW', trodAll_mk1 (shut_bool Try.underlying4 _), (trodAll_cons_mk (shut_int Try.underlying3 w0) (trodAll_cons_mk (shut_agg2 (y0 := (.lit (.int .i64 a1_0), [])) (y1 := (.lit (.int .i64 a1_1), [])) Try.underlying45 (by kernel_rfl) cells45 ⟨1, trod_int_mk 0 Try.underlying3 w1_0⟩ ⟨1, trod_int_mk 0 Try.underlying3 w1_1⟩) (trodAll_cons_mk (shut_agg2 (y0 := (.lit (.int .i64 a2_0), [])) (y1 := (.lit (.int .i64 a2_1), [])) Try.underlying45 (by kernel_rfl) cells45 ⟨1, trod_int_mk 0 Try.underlying3 w2_0⟩ ⟨1, trod_int_mk 0 Try.underlying3 w2_1⟩) (trodAll_cons_mk (shut_int Try.underlying3 w3) (trodAll_cons_mk (shut_int Try.underlying3 w4) (trodAll_cons_mk (Below.trod laidOut (by kernel_rfl) (of_decide_eq_true (by kernel_rfl)) k5 bel lt5) trodAll_mk0)))))), rfl, bel.frame _, fun h => by cases h⟩
theorem over : Rows.fnRunnersMeetOfAllRow.holds Try.pinned (OpenSpec.ofChange Rows.fnRunnersMeetOfAllSpec) :=
  OpenClaim.holds_of_wide 5 Try.f5 rfl rfl rfl rfl rfl rfl rfl ⟨rfl, rfl, rfl, rfl, rfl⟩ rfl rfl rfl rfl rfl (by kernel_rfl) Try.func5 (by kernel_rfl)
    (of_decide_eq_true (by kernel_rfl)) (by unfold Func.isWrapper; first | (rw [if_pos (by decide +kernel)]; kernel_rfl) | (rw [if_neg (by decide +kernel)]; exact ⟨rfl, rfl⟩))
    (fun os started H enc _ => lifted os started H enc)
theorem proved : Rows.FnRunnersMeetOfAllSaid := over
#print axioms proved
end Go.Proofs.Ytgobnhoblofglaa.fnRunnersMeetOfAll
namespace Go.Proofs.Ytgobnhoblofglaa
/-- The row, under a short name, for the claim. -/
theorem fnRunnersMeetOfAll_holds : Rows.FnRunnersMeetOfAllSaid := fnRunnersMeetOfAll.proved
end Go.Proofs.Ytgobnhoblofglaa
