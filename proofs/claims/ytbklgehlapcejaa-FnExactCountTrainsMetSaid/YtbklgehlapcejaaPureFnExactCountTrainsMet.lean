/- The law FnExactCountTrainsMet in plain Lean, over the printed functions: it returns true for every input (no condition). -/
import Derived.Test.YtbklgehlapcejaaPFnExactCountTrainsMetx1
import Derived.OpenShut
namespace Go.Proofs.Ytbklgehlapcejaa.QFnExactCountTrainsMet
open Go.RowKit Go.ChangeShapes Go.WideShapes Go.Proofs.Ytbklgehlapcejaa.PFnExactCountTrainsMet Go.Proofs.YtbklgehlapcejaaW.PrintWords Go.Proofs.YtbklgehlapcejaaW.PrintLast Go.Proofs.YtbklgehlapcejaaW.PrintMore
set_option linter.unusedVariables false
set_option linter.unusedSimpArgs false
theorem w64 {x : Int} (h : -9223372036854775808 ≤ x ∧ x ≤ 9223372036854775807) : wrap64 x = x := by unfold wrap64; omega
theorem bm {a b A B : Int} (ha : 0 ≤ a ∧ a ≤ A) (hb : 0 ≤ b ∧ b ≤ B) : 0 ≤ a * b ∧ a * b ≤ A * B :=
  ⟨Int.mul_nonneg ha.1 hb.1, Int.mul_le_mul ha.2 hb.2 hb.1 (Int.le_trans ha.1 ha.2)⟩
theorem gcd_step (a b : Int) (ha : 0 ≤ a) (hb : 0 ≤ b) : Int.gcd b (a.tmod b) = Int.gcd a b := by
  obtain ⟨m, rfl⟩ := Int.eq_ofNat_of_zero_le ha
  obtain ⟨n, rfl⟩ := Int.eq_ofNat_of_zero_le hb
  rw [← Int.ofNat_tmod]
  show Nat.gcd n (m % n) = Nat.gcd m n
  rw [Nat.gcd_comm n, ← Nat.gcd_rec, Nat.gcd_comm]
def lowN (a b : Int) : Int := a / (Int.gcd a b : Int)
def lowD (a b : Int) : Int := b / (Int.gcd a b : Int)
theorem gpos {a b : Int} (hb : 0 < b) : 0 < (Int.gcd a b : Int) := by
  have := Int.gcd_pos_of_ne_zero_right a (show b ≠ 0 by omega)
  omega
theorem gle {a b : Int} (hb : 0 < b) : (Int.gcd a b : Int) ≤ b := Int.le_of_dvd hb (Int.gcd_dvd_right a b)
theorem tdiv_gcd_l (a b : Int) : a.tdiv (Int.gcd a b) = lowN a b := by
  unfold lowN
  exact (Int.tdiv_eq_ediv_of_dvd (Int.gcd_dvd_left a b))
theorem tdiv_gcd_r (a b : Int) : b.tdiv (Int.gcd a b) = lowD a b := by
  unfold lowD
  exact (Int.tdiv_eq_ediv_of_dvd (Int.gcd_dvd_right a b))
theorem low_range {a b M : Int} (hb : 0 < b) (ha : -M ≤ a ∧ a ≤ M) : -M ≤ lowN a b ∧ lowN a b ≤ M := by
  unfold lowN
  have g := gpos (a := a) hb
  have hM : 0 ≤ M := by omega
  have e := Int.ediv_mul_cancel (Int.gcd_dvd_left a b)
  constructor
  · apply Int.le_ediv_of_mul_le g
    have : -M * (Int.gcd a b : Int) ≤ -M * 1 := Int.mul_le_mul_of_nonpos_left (by omega) (by omega)
    omega
  · rcases Int.le_total 0 a with h | h
    · have := Int.ediv_le_self (Int.gcd a b : Int) h
      omega
    · have := Int.ediv_le_ediv g h
      rw [Int.zero_ediv] at this
      omega
theorem lowD_range {a b : Int} (hb : 0 < b) : 1 ≤ lowD a b ∧ lowD a b ≤ b := by
  unfold lowD
  have g := gpos (a := a) hb
  constructor
  · apply Int.le_ediv_of_mul_le g
    have := gle (a := a) hb
    omega
  · exact Int.ediv_le_self _ (by omega)

theorem spec_l1In_eq (a b c : Int) : spec_l1In.f a b c = some (decide (b ≤ a ∧ a ≤ c)) := by
  unfold spec_l1In.f
  by_cases h : b ≤ a <;> simp [h]

theorem spec_tiJourney_eq (a b : Int) : spec_tiJourney.f a b = some (decide ((1 ≤ a ∧ a ≤ 10000) ∧ (1 ≤ b ∧ b ≤ 10000))) := by
  simp only [spec_tiJourney.f, spec_l1In_eq, Option.bind_some]
  by_cases h : 1 ≤ a ∧ a ≤ 10000 <;> simp [h]

theorem impl_within_eq (a b c : Int) : impl_within.f a b c = some (decide (b ≤ a ∧ a ≤ c)) := by
  unfold impl_within.f
  by_cases h : b ≤ a <;> simp [h]

theorem impl_isSpan_eq (a : Int) : impl_isSpan.f a = some (decide (1 ≤ a ∧ a ≤ 10000)) := by
  simp only [impl_isSpan.f, impl_within_eq, Option.bind_some]

theorem div_pred (j e : Int) (he : 0 < e) : (j - 1) / e = if j % e = 0 then j / e - 1 else j / e := by
  have h0 := Int.mul_ediv_add_emod j e
  have h1 := Int.emod_nonneg j (show e ≠ 0 by omega)
  have h2 := Int.emod_lt_of_pos j he
  split
  · exact ((Int.ediv_emod_unique (r := e - 1) he).2 ⟨by rw [Int.mul_sub]; omega, by omega, by omega⟩).1
  · exact ((Int.ediv_emod_unique (r := j % e - 1) he).2 ⟨by omega, by omega, by omega⟩).1
theorem holds (a0 a1 : Int) (a2 : Bool) (_ : (Lit.int .i64 a0).wf = true) (_ : (Lit.int .i64 a1).wf = true) : ∃ k, laws_FnExactCountTrainsMet.f k a0 a1 a2 = some true := by
  refine ⟨1, ?_⟩
  by_cases h : (1 ≤ a0 ∧ a0 ≤ 10000) ∧ (1 ≤ a1 ∧ a1 ≤ 10000)
  · obtain ⟨h1, h2⟩ := h
    have q0 := Int.ediv_nonneg (show 0 ≤ a0 by omega) (show 0 ≤ a1 by omega)
    have q1 := Int.ediv_le_self a1 (show 0 ≤ a0 by omega)
    have q2 := Int.ediv_nonneg (show 0 ≤ a0 - 1 by omega) (show 0 ≤ a1 by omega)
    have q3 := Int.ediv_le_self a1 (show 0 ≤ a0 - 1 by omega)
    have dp := div_pred a0 a1 (by omega)
    have e1 : Int.tdiv a0 a1 = a0 / a1 := Int.tdiv_eq_ediv_of_nonneg (by omega)
    have e2 : Int.tdiv (a0 - 1) a1 = (a0 - 1) / a1 := Int.tdiv_eq_ediv_of_nonneg (by omega)
    have e3 : Int.tmod a0 a1 = a0 % a1 := Int.tmod_eq_emod_of_nonneg (by omega)
    have hs : spec_CountTrainsMet.f a0 a1 a2 = some (if a2 = true then 2 * (a0 / a1) + 1 else 2 * ((a0 - 1) / a1) + 1, true) := by
      simp only [spec_CountTrainsMet.f, spec_tiJourney_eq, Option.bind_some, h1, h2, and_self, decide_true, if_true]
      rw [if_neg (by omega), e1, e3, w64 (x := a0 / a1) (by omega), w64 (x := 2 * (a0 / a1)) (by omega), w64 (x := 1 + 2 * (a0 / a1)) (by omega), w64 (by omega), dp]
      cases a2
      · simp only [Bool.false_eq_true, if_false]
        split <;> simp only [Option.some.injEq, Prod.mk.injEq, and_true] <;> omega
      · simp only [if_true, Option.some.injEq, Prod.mk.injEq, and_true]
        omega
    have hi : impl_CountTrainsMet.f 1 a0 a1 a2 = some (if a2 = true then 2 * (a0 / a1) + 1 else 2 * ((a0 - 1) / a1) + 1, true) := by
      simp only [impl_CountTrainsMet.f, impl_isSpan_eq, Option.bind_some, h1, h2, and_self, decide_true, if_true, impl_CountTrainsMet.j0, Bool.not_true, Bool.false_eq_true, if_false]
      rw [w64 (x := a0 - 1) (by omega), e1, e2, w64 (x := a0 / a1) (by omega), w64 (x := (a0 - 1) / a1) (by omega), w64 (x := 2 * (a0 / a1)) (by omega), w64 (x := 2 * ((a0 - 1) / a1)) (by omega), w64 (by omega), w64 (by omega)]
      have : a1 ≠ 0 := by omega
      cases a2 <;> simp [this]
    simp [laws_FnExactCountTrainsMet.f, hs, hi]
  · have hs : spec_CountTrainsMet.f a0 a1 a2 = some (0, false) := by
      simp only [spec_CountTrainsMet.f, spec_tiJourney_eq, Option.bind_some, h, decide_false, Bool.false_eq_true, if_false]
    have hi : impl_CountTrainsMet.f 1 a0 a1 a2 = some (0, false) := by
      simp only [impl_CountTrainsMet.f, impl_isSpan_eq, Option.bind_some, impl_CountTrainsMet.j0]
      by_cases h1 : 1 ≤ a0 ∧ a0 ≤ 10000
      · have h2 : ¬ (1 ≤ a1 ∧ a1 ≤ 10000) := fun h2 => h ⟨h1, h2⟩
        simp [h1, h2]
      · simp [h1]
    simp [laws_FnExactCountTrainsMet.f, hs, hi]

end Go.Proofs.Ytbklgehlapcejaa.QFnExactCountTrainsMet
