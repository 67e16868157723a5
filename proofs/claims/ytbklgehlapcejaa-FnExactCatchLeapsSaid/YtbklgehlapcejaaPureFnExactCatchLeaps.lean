/- The law FnExactCatchLeaps in plain Lean, over the printed functions: it returns true for every input (no condition). -/
import Derived.Test.YtbklgehlapcejaaPFnExactCatchLeapsx1
import Derived.OpenShut
namespace Go.Proofs.Ytbklgehlapcejaa.QFnExactCatchLeaps
open Go.RowKit Go.ChangeShapes Go.WideShapes Go.Proofs.Ytbklgehlapcejaa.PFnExactCatchLeaps Go.Proofs.YtbklgehlapcejaaW.PrintWords Go.Proofs.YtbklgehlapcejaaW.PrintLast Go.Proofs.YtbklgehlapcejaaW.PrintMore
set_option linter.unusedVariables false
set_option linter.unusedSimpArgs false
theorem w64 {x : Int} (h : -9223372036854775808 ≤ x ∧ x ≤ 9223372036854775807) : wrap64 x = x := by unfold wrap64; omega
theorem bm {a b A B : Int} (ha : 0 ≤ a ∧ a ≤ A) (hb : 0 ≤ b ∧ b ≤ B) : 0 ≤ a * b ∧ a * b ≤ A * B :=
  ⟨Int.mul_nonneg ha.1 hb.1, Int.mul_le_mul ha.2 hb.2 hb.1 (Int.le_trans ha.1 ha.2)⟩
theorem gcd_step (a b : Int) (ha : 0 ≤ a) (hb : 0 ≤ b) : Int.gcd b (a.tmod b) = Int.gcd a b := by
  obtain ⟨m, rfl⟩ := Int.eq_ofNat_of_zero_le ha
  obtain ⟨n, rfl⟩ := Int.eq_ofNat_of_zero_le hb
  rw [← Int.ofNat_tmod]
  show Nat.gcd n (m % n) = Nat.gcd m n
  rw [Nat.gcd_comm n, ← Nat.gcd_rec, Nat.gcd_comm]
def lowN (a b : Int) : Int := a / (Int.gcd a b : Int)
def lowD (a b : Int) : Int := b / (Int.gcd a b : Int)
theorem gpos {a b : Int} (hb : 0 < b) : 0 < (Int.gcd a b : Int) := by
  have := Int.gcd_pos_of_ne_zero_right a (show b ≠ 0 by omega)
  omega
theorem gle {a b : Int} (hb : 0 < b) : (Int.gcd a b : Int) ≤ b := Int.le_of_dvd hb (Int.gcd_dvd_right a b)
theorem tdiv_gcd_l (a b : Int) : a.tdiv (Int.gcd a b) = lowN a b := by
  unfold lowN
  exact (Int.tdiv_eq_ediv_of_dvd (Int.gcd_dvd_left a b))
theorem tdiv_gcd_r (a b : Int) : b.tdiv (Int.gcd a b) = lowD a b := by
  unfold lowD
  exact (Int.tdiv_eq_ediv_of_dvd (Int.gcd_dvd_right a b))
theorem low_range {a b M : Int} (hb : 0 < b) (ha : -M ≤ a ∧ a ≤ M) : -M ≤ lowN a b ∧ lowN a b ≤ M := by
  unfold lowN
  have g := gpos (a := a) hb
  have hM : 0 ≤ M := by omega
  have e := Int.ediv_mul_cancel (Int.gcd_dvd_left a b)
  constructor
  · apply Int.le_ediv_of_mul_le g
    have : -M * (Int.gcd a b : Int) ≤ -M * 1 := Int.mul_le_mul_of_nonpos_left (by omega) (by omega)
    omega
  · rcases Int.le_total 0 a with h | h
    · have := Int.ediv_le_self (Int.gcd a b : Int) h
      omega
    · have := Int.ediv_le_ediv g h
      rw [Int.zero_ediv] at this
      omega
theorem lowD_range {a b : Int} (hb : 0 < b) : 1 ≤ lowD a b ∧ lowD a b ≤ b := by
  unfold lowD
  have g := gpos (a := a) hb
  constructor
  · apply Int.le_ediv_of_mul_le g
    have := gle (a := a) hb
    omega
  · exact Int.ediv_le_self _ (by omega)

theorem spec_l1In_eq (a b c : Int) : spec_l1In.f a b c = some (decide (b ≤ a ∧ a ≤ c)) := by
  unfold spec_l1In.f
  by_cases h : b ≤ a <;> simp [h]

theorem spec_l1All_l0 (lo hi : Int) (l : List Int) (hl : l.length ≤ 1000000000) (d : Nat) : ∀ (k i : Nat), i + d = l.length → d < k →
    spec_l1All.l0 k lo hi l (l.length : Int) (i : Int) = some (decide (∀ x ∈ l.drop i, lo ≤ x ∧ x ≤ hi)) := by
  induction d with
  | zero =>
    intro k i hi' hk
    obtain ⟨k, rfl⟩ : ∃ m, k = m + 1 := ⟨k - 1, by omega⟩
    simp only [spec_l1All.l0]
    rw [if_neg (by omega), List.drop_of_length_le (by omega)]
    simp
  | succ d ih =>
    intro k i hi' hk
    obtain ⟨k, rfl⟩ : ∃ m, k = m + 1 := ⟨k - 1, by omega⟩
    have hlt : i < l.length := by omega
    have er : rd l (i : Int) = l[i] := by simp [rd, hlt]
    simp only [spec_l1All.l0]
    rw [if_pos (by omega), if_pos (by omega), if_pos (by omega), spec_l1In_eq, er, List.drop_eq_getElem_cons hlt]
    simp only [Option.bind_some]
    have e1 : wrap64 ((i : Int) + 1) = ((i + 1 : Nat) : Int) := by rw [w64 (by omega)]; rfl
    rw [e1, ih k (i + 1) (by omega) (by omega)]
    have e2 : (∀ x ∈ l[i] :: l.drop (i + 1), lo ≤ x ∧ x ≤ hi) ↔ ((lo ≤ l[i] ∧ l[i] ≤ hi) ∧ ∀ x ∈ l.drop (i + 1), lo ≤ x ∧ x ≤ hi) := List.forall_mem_cons
    by_cases h : lo ≤ l[i] ∧ l[i] ≤ hi
    · simp only [h, and_self, decide_true, if_true]
      exact congrArg some (decide_eq_decide.mpr (e2.trans ⟨fun z => z.2, fun z => ⟨h, z⟩⟩).symm)
    · simp only [h, decide_false, Bool.false_eq_true, if_false]
      exact congrArg some (decide_eq_false (fun z => h (e2.1 z).1)).symm
theorem spec_l1All_eq (k : Nat) (lo hi : Int) (l : List Int) (hl : l.length ≤ 1000000000) (hk : l.length < k) : spec_l1All.f k l lo hi = some (decide (∀ x ∈ l, lo ≤ x ∧ x ≤ hi)) := by
  unfold spec_l1All.f
  have := spec_l1All_l0 lo hi l hl l.length k 0 (by omega) hk
  simpa using this

def isLeaps (a b c d : Int) : Prop := (1 ≤ a ∧ a ≤ 20) ∧ (1 ≤ b ∧ b ≤ 20) ∧ (1 ≤ c ∧ c ≤ 20) ∧ (1 ≤ d ∧ d ≤ 20)
instance (a b c d : Int) : Decidable (isLeaps a b c d) := by unfold isLeaps; infer_instance
theorem spec_doLeaps_eq (k : Nat) (hk : 4 < k) (a b c d : Int) : spec_doLeaps.f k a b c d = some (decide (isLeaps a b c d)) := by
  unfold spec_doLeaps.f
  rw [spec_l1All_eq k 1 20 _ (by simp) (by simpa using hk)]
  exact congrArg some (decide_eq_decide.mpr (by unfold isLeaps; simp))

theorem impl_within_eq (a b c : Int) : impl_within.f a b c = some (decide (b ≤ a ∧ a ≤ c)) := by
  unfold impl_within.f
  by_cases h : b ≤ a <;> simp [h]

theorem impl_allWithin_l0 (lo hi : Int) (l : List Int) (hl : l.length ≤ 1000000000) (d : Nat) : ∀ (k i : Nat), i + d = l.length → d < k →
    impl_allWithin.l0 k lo hi l (l.length : Int) (i : Int) = some (decide (∀ x ∈ l.drop i, lo ≤ x ∧ x ≤ hi)) := by
  induction d with
  | zero =>
    intro k i hi' hk
    obtain ⟨k, rfl⟩ : ∃ m, k = m + 1 := ⟨k - 1, by omega⟩
    simp only [impl_allWithin.l0]
    rw [if_neg (by omega), List.drop_of_length_le (by omega)]
    simp
  | succ d ih =>
    intro k i hi' hk
    obtain ⟨k, rfl⟩ : ∃ m, k = m + 1 := ⟨k - 1, by omega⟩
    have hlt : i < l.length := by omega
    have er : rd l (i : Int) = l[i] := by simp [rd, hlt]
    simp only [impl_allWithin.l0]
    rw [if_pos (by omega), if_pos (by omega), if_pos (by omega), impl_within_eq, er, List.drop_eq_getElem_cons hlt]
    simp only [Option.bind_some]
    have e1 : wrap64 ((i : Int) + 1) = ((i + 1 : Nat) : Int) := by rw [w64 (by omega)]; rfl
    rw [e1, ih k (i + 1) (by omega) (by omega)]
    have e2 : (∀ x ∈ l[i] :: l.drop (i + 1), lo ≤ x ∧ x ≤ hi) ↔ ((lo ≤ l[i] ∧ l[i] ≤ hi) ∧ ∀ x ∈ l.drop (i + 1), lo ≤ x ∧ x ≤ hi) := List.forall_mem_cons
    by_cases h : lo ≤ l[i] ∧ l[i] ≤ hi
    · simp only [h, and_self, decide_true, if_true]
      exact congrArg some (decide_eq_decide.mpr (e2.trans ⟨fun z => z.2, fun z => ⟨h, z⟩⟩).symm)
    · simp only [h, decide_false, Bool.false_eq_true, if_false]
      exact congrArg some (decide_eq_false (fun z => h (e2.1 z).1)).symm
theorem impl_allWithin_eq (k : Nat) (lo hi : Int) (l : List Int) (hl : l.length ≤ 1000000000) (hk : l.length < k) : impl_allWithin.f k l lo hi = some (decide (∀ x ∈ l, lo ≤ x ∧ x ≤ hi)) := by
  unfold impl_allWithin.f
  have := impl_allWithin_l0 lo hi l hl l.length k 0 (by omega) hk
  simpa using this

theorem impl_areLeaps_eq (k : Nat) (hk : 4 < k) (a b c d : Int) : impl_areLeaps.f k [a, b, c, d] = some (decide (isLeaps a b c d)) := by
  unfold impl_areLeaps.f
  rw [impl_allWithin_eq k 1 20 _ (by simp) (by simpa using hk)]
  exact congrArg some (decide_eq_decide.mpr (by unfold isLeaps; simp))

theorem holds (a0 a1 a2 a3 a4 : Int) (_ : (Lit.int .i64 a0).wf = true) (_ : (Lit.int .i64 a1).wf = true) (_ : (Lit.int .i64 a2).wf = true) (_ : (Lit.int .i64 a3).wf = true) (_ : (Lit.int .i64 a4).wf = true) : ∃ k, laws_FnExactCatchLeaps.f k a0 a1 a2 a3 a4 = some true := by
  obtain ⟨k, hk⟩ : ∃ k : Nat, 4 < k := ⟨5, by decide⟩
  refine ⟨k, ?_⟩
  have ec : a4 * a1 = a1 * a4 := Int.mul_comm a4 a1
  by_cases h0 : 1 ≤ a0 ∧ a0 ≤ 1000
  · by_cases h : isLeaps a1 a2 a3 a4
    · have g := h
      obtain ⟨g1, g2, g3, g4⟩ := g
      have p1 := bm (A := 20) (B := 20) (a := a1) (b := a4) (by omega) (by omega)
      have p2 := bm (A := 20) (B := 20) (a := a2) (b := a3) (by omega) (by omega)
      have p3 := bm (A := 20) (B := 20) (a := a1) (b := a3) (by omega) (by omega)
      have p4 := bm (A := 1000) (B := 20) (a := a0) (b := a3) (by omega) (by omega)
      have p5 := bm (A := 1000) (B := 400) (a := a0) (b := a1 * a3) (by omega) (by omega)
      have p6 : a0 * a3 * a1 = a0 * (a1 * a3) := by rw [Int.mul_assoc, Int.mul_comm a3 a1]
      simp only [laws_FnExactCatchLeaps.f, spec_CatchLeaps.f, impl_CatchLeaps.f, spec_doLeaps_eq k hk, impl_areLeaps_eq k hk, spec_l1In_eq, impl_within_eq, Option.bind_some, h, h0, and_self, decide_true, if_true, ec]
      rw [w64 (x := a0 * a3) (by omega), p6, w64 (x := a1 * a3) (by omega)]
      by_cases h5 : wrap64 (a1 * a4) ≤ wrap64 (a2 * a3)
      · simp [h5]
      · rw [if_neg h5]
        rw [w64 (x := a1 * a4) (by omega), w64 (x := a2 * a3) (by omega)] at h5 ⊢
        rw [w64 (x := a1 * a4 - a2 * a3) (by omega), if_neg (by omega)]
        simp
    · simp [laws_FnExactCatchLeaps.f, spec_CatchLeaps.f, impl_CatchLeaps.f, spec_doLeaps_eq k hk, impl_areLeaps_eq k hk, spec_l1In_eq, impl_within_eq, h, h0]
  · simp [laws_FnExactCatchLeaps.f, spec_CatchLeaps.f, impl_CatchLeaps.f, spec_l1In_eq, impl_within_eq, h0]

end Go.Proofs.Ytbklgehlapcejaa.QFnExactCatchLeaps
