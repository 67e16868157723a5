/- The row of the law FnExactOrderOnTrack: it returns true for every input (no condition); joined out of the printed walk and the pure law. -/
import Derived.Test.YtgobnhoblofglaaRows
import Derived.Test.YtgobnhoblofglaaPFnExactOrderOnTrackx5
import Derived.Test.YtgobnhoblofglaaPureFnExactOrderOnTrack
import Derived.WalkKit
import Derived.ProofKit
import Derived.OpenShut
import Derived.ShutString
import Derived.ChangeOld
import Derived.Below
import Derived.SizedLaws
import Derived.Lib.SmallJoins
import Derived.Deep.SlicePairs
namespace Go.Proofs.Ytgobnhoblofglaa.fnExactOrderOnTrack
open Go.ChangeShapes Go.WideShapes Go.ChangeAt Go.RowKit Go.Joins Go.Proofs.Ytgobnhoblofglaa.PFnExactOrderOnTrack Go.Proofs.YtgobnhoblofglaaW.PrintWords Go.Proofs.YtgobnhoblofglaaW.PrintLast Go.Proofs.YtgobnhoblofglaaW.PrintMore
open Go.ChangeMaps (open_string shut_string)
set_option linter.unusedVariables false
set_option linter.unusedSimpArgs false
theorem own : ownKnob Try.prog.godebug = none := by kernel_rfl
theorem laidOut : laidOutB Try.prog = true := by kernel_rfl
theorem cells78 : Try.prog.cellsOf 78 = 2 := by kernel_rfl
/-- a row of structs out of its cells -/
theorem kC_of_cells78 (W : World) (x : Addr) (n : Nat) (f : Nat → S78) (hn : n ≤ 9223372036854775807) (h : ∀ j, j < n → W.cell? (x.add (j * 2)) = some (.int .i64 (f j).f0) ∧ W.cell? (x.add (j * 2 + 1)) = some (.int .i64 (f j).f1)) :
    Kd.C k78 W (some x) ((List.range n).map f).length ((List.range n).map f) := by
  refine ⟨rfl, by simpa using hn, fun h0 => ⟨x, rfl, fun j p hp => ?_⟩⟩
  have hj : j < n := by
    have := List.getElem?_eq_some_iff.mp hp
    obtain ⟨q, _⟩ := this
    simpa using q
  have e : p = f j := by
    rw [List.getElem?_map, List.getElem?_range hj] at hp
    exact (Option.some.inj hp).symm
  subst e
  refine ⟨[.int .i64 (f j).f0, .int .i64 (f j).f1], rfl, k78_mk W (f j), fun i u hu => ?_⟩
  match i, hu with
  | 0, hu =>
    obtain rfl := Option.some.inj hu
    exact (h j hj).1
  | 1, hu =>
    obtain rfl := Option.some.inj hu
    exact (h j hj).2
set_option maxHeartbeats 1000000 in
set_option maxRecDepth 100000 in
theorem lifted (os : Os) (started : os.Started) (H : Type) (enc : TypeId × Value → H) :
    ReturnsInHanded {} Try.checked os 4 .any (Rows.fnExactOrderOnTrackSpec.pre6 enc Try.prog Try.f4 Rows.fnExactOrderOnTrackRow.domain false) (Rows.fnExactOrderOnTrackSpec.post enc Try.prog Try.f4 false true false false) := by
  refine returnsInHanded_of_change_sized (C := Try.checked) own started (by kernel_rfl) Try.func4
    (ChangeSpec.witness6 (enc := enc) (C := Try.checked) false ⟨#[], #[.int .i64 0, .slice none 0 0, .int .i64 0], []⟩ 8 (by kernel_rfl) (by kernel_rfl) (by kernel_rfl) (by kernel_rfl)) ?_
  intro W base args ds gs before hval0 hW hcnd hsz0 _
  have hsz : (DataW.weightsEach Try.prog (Try.f4.params.toList ++ Rows.fnExactOrderOnTrackSpec.plain.varTypes Try.prog) (ds ++ gs)).all (· ≤ reachBytes) = true := hsz0
  have hval : ∀ (j : Nat) t v, Try.f4.params[j]? = some t → args[j]? = some v → Value.okWide Try.prog W .any base t v := hval0
  have hW' := hW
  obtain ⟨p, q, hA0, hV, rfl, hfz, hnd⟩ := hW
  have hA : DataW.TrodAll enc Try.prog W 0 (fun _ => true) true Try.f4.params.toList args.toList ds p := hA0
  rw [Try.params4] at hA hval hsz
  obtain ⟨v0, vs0, d0, ds0, p0, q0, hargs, rfl, rfl, h0, r0⟩ := trodAll_cons hA
  obtain ⟨v1, vs1, d1, ds1, p1, q1, rfl, rfl, rfl, h1, r1⟩ := trodAll_cons r0
  obtain ⟨v2, vs2, d2, ds2, p2, q2, rfl, rfl, rfl, h2, r2⟩ := trodAll_cons r1
  obtain ⟨rfl, rfl, rfl⟩ := trodAll_nil r2
  obtain rfl : args = #[v0, v1, v2] := by cases args; simp_all
  obtain ⟨rfl, rfl⟩ := trodVars_none hV
  obtain ⟨a0, rfl, rfl, rfl, w0⟩ := open_int Try.underlying3 (hval 0 3 v0 rfl rfl) h0
  obtain ⟨a1, len1, cap1, rfl⟩ := okWide_slice Try.underlying32 (hval 1 32 v1 rfl rfl)
  have k1 := h1
  have lt1 : ∀ x ∈ p1, x.block < W.heap.size := by obtain ⟨m, hm⟩ := k1; exact DataW.trod_lt m _ _ _ hm
  obtain ⟨l1, rfl, hc1, hr1⟩ : ∃ l : List S78, len1 = l.length ∧ l.length ≤ cap1 ∧ Kd.C k78 W a1 l.length l := by
    obtain ⟨fuel, hf⟩ := h1
    rcases Go.Deep.open_slice_pairs Try.underlying32 Try.underlying78 cells78 rfl rfl (by kernel_rfl) (by kernel_rfl) hf with ⟨hcs, _⟩ | ⟨x, l, c, m, n, V0, V1, D0, D1, P0, P1, hcs, _, hl, hm, hmm, _, hcell⟩
    · simp [Value.cells] at hcs
      obtain ⟨rfl, rfl, rfl⟩ := hcs
      exact ⟨[], rfl, Nat.le_refl _, Kd.C_nil _ _⟩
    · simp [Value.cells] at hcs
      obtain ⟨e1, e2, e3⟩ := hcs
      have hlm : len1 ≤ m := by rw [e2, hmm]; split <;> omega
      have each : ∀ j, ∃ q : Int × Int, j < len1 → W.cell? (x.add (j * 2)) = some (.int .i64 q.1) ∧ W.cell? (x.add (j * 2 + 1)) = some (.int .i64 q.2) := by
        intro j
        by_cases hj : j < len1
        · obtain ⟨z0, z1, z2, z3⟩ := hcell j (by omega)
          obtain ⟨q0, e0, _, _⟩ := DataW.trod_int Try.underlying3 z2
          obtain ⟨q1, e1, _, _⟩ := DataW.trod_int Try.underlying3 z3
          rw [show V0 j = .int .i64 q0 by simpa using e0] at z0
          rw [show V1 j = .int .i64 q1 by simpa using e1] at z1
          exact ⟨(q0, q1), fun _ => ⟨z0, z1⟩⟩
        · exact ⟨(0, 0), fun h => absurd h hj⟩
      obtain ⟨q, hq⟩ := Classical.axiomOfChoice each
      unfold maxLen at hm
      refine ⟨(List.range len1).map fun j => ⟨(q j).1, (q j).2⟩, by simp, by simp only [List.length_map, List.length_range]; omega, ?_⟩
      rw [e1]
      exact kC_of_cells78 W x len1 (fun j => ⟨(q j).1, (q j).2⟩) (by omega) fun j hj => hq j hj
  obtain ⟨a2, rfl, rfl, rfl, w2⟩ := open_int Try.underlying3 (hval 2 3 v2 rfl rfl) h2
  clear hA0 hval0 hsz0 hsz
  obtain ⟨k, hk⟩ := QFnExactOrderOnTrack.holds a0 l1 a2 w0 (Kd.C_max hr1) w2
  refine (PFnExactOrderOnTrack.laws_FnExactOrderOnTrack.calls k a0 a1 cap1 l1 a2 true W hr1 hc1 hk).mono fun e W' ⟨he, bel⟩ => ?_
  subst he
  exact ⟨_, rfl, _, _, _, [], _, [], hW', trodAll_mk1 (shut_bool Try.underlying4 _), (trodAll_cons_mk (shut_int Try.underlying3 w0) (trodAll_cons_mk (Below.trod laidOut (by kernel_rfl) (of_decide_eq_true (by kernel_rfl)) k1 bel lt1) (trodAll_cons_mk (shut_int Try.underlying3 w2) trodAll_mk0))), rfl, bel.frame _, fun h => by cases h⟩
theorem over : Rows.fnExactOrderOnTrackRow.holds Try.pinned (OpenSpec.ofChange Rows.fnExactOrderOnTrackSpec) :=
  OpenClaim.holds_of_wide 4 Try.f4 rfl rfl rfl rfl rfl rfl rfl ⟨rfl, rfl, rfl, rfl, rfl⟩ rfl rfl rfl rfl rfl (by kernel_rfl) Try.func4 (by kernel_rfl)
    (of_decide_eq_true (by kernel_rfl)) (by unfold Func.isWrapper; first | (rw [if_pos (by decide +kernel)]; kernel_rfl) | (rw [if_neg (by decide +kernel)]; exact ⟨rfl, rfl⟩))
    (fun os started H enc _ => lifted os started H enc)
theorem proved : Rows.FnExactOrderOnTrackSaid := over
#print axioms proved
end Go.Proofs.Ytgobnhoblofglaa.fnExactOrderOnTrack
namespace Go.Proofs.Ytgobnhoblofglaa
/-- The row, under a short name, for the claim. -/
theorem fnExactOrderOnTrack_holds : Rows.FnExactOrderOnTrackSaid := fnExactOrderOnTrack.proved
end Go.Proofs.Ytgobnhoblofglaa
