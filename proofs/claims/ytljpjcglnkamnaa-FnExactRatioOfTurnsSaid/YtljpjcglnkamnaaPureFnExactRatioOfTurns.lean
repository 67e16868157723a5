/- The law FnExactRatioOfTurns in plain Lean, over the printed functions: it returns true for every input (no condition). -/
import Derived.Test.YtljpjcglnkamnaaPFnExactRatioOfTurnsx3
import Derived.OpenShut
namespace Go.Proofs.Ytljpjcglnkamnaa.QFnExactRatioOfTurns
open Go.RowKit Go.ChangeShapes Go.WideShapes Go.Proofs.Ytljpjcglnkamnaa.PFnExactRatioOfTurns Go.Proofs.YtljpjcglnkamnaaW.PrintWords Go.Proofs.YtljpjcglnkamnaaW.PrintLast Go.Proofs.YtljpjcglnkamnaaW.PrintMore
set_option linter.unusedVariables false
set_option linter.unusedSimpArgs false
theorem w64 {x : Int} (h : -9223372036854775808 ≤ x ∧ x ≤ 9223372036854775807) : wrap64 x = x := by unfold wrap64; omega
theorem bm {a b A B : Int} (ha : 0 ≤ a ∧ a ≤ A) (hb : 0 ≤ b ∧ b ≤ B) : 0 ≤ a * b ∧ a * b ≤ A * B :=
  ⟨Int.mul_nonneg ha.1 hb.1, Int.mul_le_mul ha.2 hb.2 hb.1 (Int.le_trans ha.1 ha.2)⟩
theorem gcd_step (a b : Int) (ha : 0 ≤ a) (hb : 0 ≤ b) : Int.gcd b (a.tmod b) = Int.gcd a b := by
  obtain ⟨m, rfl⟩ := Int.eq_ofNat_of_zero_le ha
  obtain ⟨n, rfl⟩ := Int.eq_ofNat_of_zero_le hb
  rw [← Int.ofNat_tmod]
  show Nat.gcd n (m % n) = Nat.gcd m n
  rw [Nat.gcd_comm n, ← Nat.gcd_rec, Nat.gcd_comm]
def lowN (a b : Int) : Int := a / (Int.gcd a b : Int)
def lowD (a b : Int) : Int := b / (Int.gcd a b : Int)
theorem gpos {a b : Int} (hb : 0 < b) : 0 < (Int.gcd a b : Int) := by
  have := Int.gcd_pos_of_ne_zero_right a (show b ≠ 0 by omega)
  omega
theorem gle {a b : Int} (hb : 0 < b) : (Int.gcd a b : Int) ≤ b := Int.le_of_dvd hb (Int.gcd_dvd_right a b)
theorem tdiv_gcd_l (a b : Int) : a.tdiv (Int.gcd a b) = lowN a b := by
  unfold lowN
  exact (Int.tdiv_eq_ediv_of_dvd (Int.gcd_dvd_left a b))
theorem tdiv_gcd_r (a b : Int) : b.tdiv (Int.gcd a b) = lowD a b := by
  unfold lowD
  exact (Int.tdiv_eq_ediv_of_dvd (Int.gcd_dvd_right a b))
theorem low_range {a b M : Int} (hb : 0 < b) (ha : -M ≤ a ∧ a ≤ M) : -M ≤ lowN a b ∧ lowN a b ≤ M := by
  unfold lowN
  have g := gpos (a := a) hb
  have hM : 0 ≤ M := by omega
  have e := Int.ediv_mul_cancel (Int.gcd_dvd_left a b)
  constructor
  · apply Int.le_ediv_of_mul_le g
    have : -M * (Int.gcd a b : Int) ≤ -M * 1 := Int.mul_le_mul_of_nonpos_left (by omega) (by omega)
    omega
  · rcases Int.le_total 0 a with h | h
    · have := Int.ediv_le_self (Int.gcd a b : Int) h
      omega
    · have := Int.ediv_le_ediv g h
      rw [Int.zero_ediv] at this
      omega
theorem lowD_range {a b : Int} (hb : 0 < b) : 1 ≤ lowD a b ∧ lowD a b ≤ b := by
  unfold lowD
  have g := gpos (a := a) hb
  constructor
  · apply Int.le_ediv_of_mul_le g
    have := gle (a := a) hb
    omega
  · exact Int.ediv_le_self _ (by omega)
theorem bms {a b A B : Int} (ha : -A ≤ a ∧ a ≤ A) (hb : 0 ≤ b ∧ b ≤ B) : -(A * B) ≤ a * b ∧ a * b ≤ A * B := by
  have hA : 0 ≤ A := by omega
  rcases Int.le_total 0 a with h | h
  · have := bm ⟨h, ha.2⟩ hb
    have := Int.mul_nonneg hA (Int.le_trans hb.1 hb.2)
    omega
  · have := bm (a := -a) (A := A) ⟨by omega, by omega⟩ hb
    have e : -a * b = -(a * b) := Int.neg_mul a b
    omega
theorem low_scale (a b c : Int) (hc : 0 < c) : lowN (a * c) (b * c) = lowN a b ∧ lowD (a * c) (b * c) = lowD a b := by
  have e : (Int.gcd (a * c) (b * c) : Int) = (Int.gcd a b : Int) * c := by
    rw [Int.gcd_mul_right]
    have : (c.natAbs : Int) = c := by omega
    rw [Int.natCast_mul, this]
  unfold lowN lowD
  rw [e]
  exact ⟨Int.mul_ediv_mul_of_pos_left a _ hc, Int.mul_ediv_mul_of_pos_left b _ hc⟩

theorem spec_l1In_eq (a b c : Int) : spec_l1In.f a b c = some (decide (b ≤ a ∧ a ≤ c)) := by
  unfold spec_l1In.f
  by_cases h : b ≤ a <;> simp [h]

theorem spec_l1Most_eq (a b : Int) : spec_l1Most.f a b = some (if a > b then a else b) := by
  unfold spec_l1Most.f
  split <;> rfl

/-- what a chase is -/
def isCh (a l r d : Int) : Prop := (1 ≤ a ∧ a ≤ 1000) ∧ (0 ≤ l ∧ l ≤ 20) ∧ (0 ≤ r ∧ r ≤ 20) ∧ 0 < l + r ∧ l < d ∧ r < d ∧ d ≤ 20
theorem spec_doGood_no (a l r d : Int) (wd : -9223372036854775808 ≤ d ∧ d ≤ 9223372036854775807) (h : ¬ isCh a l r d) : spec_doGood.f a l r d = some false := by
  unfold isCh at h
  simp only [spec_doGood.f, spec_l1In_eq, spec_l1Most_eq, Option.bind_some]
  by_cases h1 : 1 ≤ a ∧ a ≤ 1000
  · by_cases h2 : 0 ≤ l ∧ l ≤ 20
    · by_cases h3 : 0 ≤ r ∧ r ≤ 20
      · simp only [h1, h2, h3, and_self, decide_true, if_true]
        rw [w64 (by omega)]
        by_cases h4 : l + r > 0
        · rw [if_pos h4, w64 (by split <;> omega)]
          simp only [Option.some.injEq, decide_eq_false_iff_not]
          split <;> omega
        · rw [if_neg h4]
      · simp [h1, h2, h3]
    · simp [h1, h2]
  · simp [h1]
theorem spec_doGood_yes (a l r d : Int) (h : isCh a l r d) : spec_doGood.f a l r d = some true := by
  unfold isCh at h
  obtain ⟨h1, h2, h3, h4, h5, h6, h7⟩ := h
  simp only [spec_doGood.f, spec_l1In_eq, spec_l1Most_eq, Option.bind_some, h1, h2, h3, and_self, decide_true, if_true]
  rw [w64 (by omega), if_pos (show l + r > 0 by omega), w64 (by split <;> omega)]
  simp only [Option.some.injEq, decide_eq_true_eq]
  split <;> omega

theorem spec_l1Abs_eq (a : Int) (h : -9223372036854775807 ≤ a ∧ a ≤ 9223372036854775807) : spec_l1Abs.f a = some (Int.natAbs a : Int) := by
  unfold spec_l1Abs.f
  rw [w64 (by omega), spec_l1Most_eq]
  simp only [Option.bind_some, Option.some.injEq]
  split <;> omega

theorem spec_meLow_l0 (a0 b0 : Int) (h0 : 0 < b0) (ha0 : -9223372036854775807 ≤ a0 ∧ a0 ≤ 9223372036854775807) (hb0 : b0 ≤ 9223372036854775807) (n : Nat) :
    ∀ (k : Nat) (a b : Int), 0 ≤ a → 0 ≤ b → b ≤ n → n < k → Int.gcd a b = Int.gcd a0 b0 → spec_meLow.l0 k a0 b0 a b = some (lowN a0 b0, lowD a0 b0) := by
  have fin : ∀ (k : Nat) (a : Int), 0 ≤ a → Int.gcd a 0 = Int.gcd a0 b0 → spec_meLow.l0 (k + 1) a0 b0 a 0 = some (lowN a0 b0, lowD a0 b0) := by
    intro k a ha e
    have hg : a = (Int.gcd a0 b0 : Int) := by rw [Int.gcd_zero_right] at e; omega
    have gp := gpos (a := a0) h0
    have r1 := low_range (a := a0) h0 ha0
    have r2 := lowD_range (a := a0) h0
    simp only [spec_meLow.l0]
    rw [if_neg (by omega), if_neg (by omega), hg, tdiv_gcd_l, tdiv_gcd_r, w64 (by omega), w64 (by omega)]
  induction n with
  | zero =>
    intro k a b ha hb hn hk e
    obtain ⟨k, rfl⟩ : ∃ m, k = m + 1 := ⟨k - 1, by omega⟩
    obtain rfl : b = 0 := by omega
    exact fin k a ha e
  | succ n ih =>
    intro k a b ha hb hn hk e
    obtain ⟨k, rfl⟩ : ∃ m, k = m + 1 := ⟨k - 1, by omega⟩
    by_cases h : b > 0
    · simp only [spec_meLow.l0]
      rw [if_pos h, if_neg (by omega)]
      have h1 : 0 ≤ a.tmod b := Int.tmod_nonneg b ha
      have h2 : a.tmod b < b := Int.tmod_lt_of_pos a h
      exact ih k b (a.tmod b) hb h1 (by omega) (by omega) ((gcd_step a b ha hb).trans e)
    · obtain rfl : b = 0 := by omega
      exact fin k a ha e
theorem spec_meLow_eq (k : Nat) (a b : Int) (hb : 0 < b) (ha : -9223372036854775807 ≤ a ∧ a ≤ 9223372036854775807) (hbb : b ≤ 9223372036854775807) (hk : b + 1 < k) :
    spec_meLow.f k a b = some (lowN a b, lowD a b) := by
  obtain ⟨k, rfl⟩ : ∃ m, k = m + 1 := ⟨k - 1, by omega⟩
  unfold spec_meLow.f
  rw [if_neg (by omega)]
  simp only [spec_meLow.j0]
  rw [spec_l1Abs_eq a ha]
  simp only [Option.bind_some]
  exact spec_meLow_l0 a b hb ha hbb b.toNat k _ b (by omega) (by omega) (by omega) (by omega) (by rw [Int.gcd, Int.gcd, Int.natAbs_natCast])

theorem impl_within_eq (a b c : Int) : impl_within.f a b c = some (decide (b ≤ a ∧ a ≤ c)) := by
  unfold impl_within.f
  by_cases h : b ≤ a <;> simp [h]

theorem impl_IsChase_no (a l r d : Int) (h : ¬ isCh a l r d) : impl_IsChase.f a l r d = some false := by
  unfold isCh at h
  simp only [impl_IsChase.f, impl_within_eq, Option.bind_some]
  by_cases h1 : 1 ≤ a ∧ a ≤ 1000
  · by_cases h2 : 0 ≤ l ∧ l ≤ 20
    · by_cases h3 : 0 ≤ r ∧ r ≤ 20
      · simp only [h1, h2, h3, and_self, decide_true, if_true]
        rw [w64 (by omega)]
        by_cases h4 : l + r > 0
        · rw [if_pos h4]
          by_cases h5 : d > mx l r
          · rw [if_pos h5]
            unfold mx at h5
            simp only [Option.some.injEq, decide_eq_false_iff_not]
            split at h5 <;> omega
          · rw [if_neg h5]
        · rw [if_neg h4]
      · simp [h1, h2, h3]
    · simp [h1, h2]
  · simp [h1]
theorem impl_IsChase_yes (a l r d : Int) (h : isCh a l r d) : impl_IsChase.f a l r d = some true := by
  unfold isCh at h
  obtain ⟨h1, h2, h3, h4, h5, h6, h7⟩ := h
  simp only [impl_IsChase.f, impl_within_eq, Option.bind_some, h1, h2, h3, and_self, decide_true, if_true]
  rw [w64 (by omega), if_pos (show l + r > 0 by omega), if_pos (show d > mx l r by unfold mx; split <;> omega)]
  simp [h7]

theorem impl_absOf_eq (a : Int) (h : -9223372036854775807 ≤ a ∧ a ≤ 9223372036854775807) : impl_absOf.f a = some (Int.natAbs a : Int) := by
  unfold impl_absOf.f mx
  rw [w64 (by omega)]
  simp only [Option.some.injEq]
  split <;> omega

theorem impl_divisorOf_l0 (n : Nat) : ∀ (k : Nat) (a b : Int), 0 ≤ a → 0 ≤ b → b ≤ n → n < k → impl_divisorOf.l0 k a b = some (Int.gcd a b : Int) := by
  induction n with
  | zero =>
    intro k a b ha hb hn hk
    obtain ⟨k, rfl⟩ : ∃ m, k = m + 1 := ⟨k - 1, by omega⟩
    obtain rfl : b = 0 := by omega
    simp only [impl_divisorOf.l0]
    rw [if_neg (by omega), Int.gcd_zero_right]
    congr 1
    omega
  | succ n ih =>
    intro k a b ha hb hn hk
    obtain ⟨k, rfl⟩ : ∃ m, k = m + 1 := ⟨k - 1, by omega⟩
    simp only [impl_divisorOf.l0]
    by_cases h : b > 0
    · rw [if_pos h, if_neg (by omega)]
      have h1 : 0 ≤ a.tmod b := Int.tmod_nonneg b ha
      have h2 : a.tmod b < b := Int.tmod_lt_of_pos a h
      rw [ih k b (a.tmod b) hb h1 (by omega) (by omega), gcd_step a b ha hb]
    · obtain rfl : b = 0 := by omega
      rw [if_neg h, Int.gcd_zero_right]
      congr 1
      omega
theorem impl_divisorOf_eq (k : Nat) (a b : Int) (ha : 0 ≤ a) (hb : 0 ≤ b) (hk : b < k) : impl_divisorOf.f k a b = some (Int.gcd a b : Int) := by
  unfold impl_divisorOf.f
  exact impl_divisorOf_l0 b.toNat k a b ha hb (by omega) (by omega)

theorem impl_lowest_eq (k : Nat) (a b : Int) (hb : 0 < b) (ha : -9223372036854775807 ≤ a ∧ a ≤ 9223372036854775807) (hbb : b ≤ 9223372036854775807) (hk : -(k : Int) < a ∧ a < k) :
    impl_lowest.f k a b = some (lowN a b, lowD a b) := by
  unfold impl_lowest.f
  rw [if_neg (by omega), impl_absOf_eq a ha]
  simp only [Option.bind_some]
  rw [impl_divisorOf_eq k b _ (by omega) (by omega) (by omega)]
  have e : Int.gcd b (a.natAbs : Int) = Int.gcd a b := by
    rw [Int.gcd_comm, Int.gcd, Int.gcd, Int.natAbs_natCast]
  have gp := gpos (a := a) hb
  have r1 := low_range (a := a) hb ha
  have r2 := lowD_range (a := a) hb
  simp only [Option.bind_some, e]
  rw [if_neg (by omega), tdiv_gcd_l, tdiv_gcd_r, w64 (by omega), w64 (by omega)]

theorem holds (a l r d : Int) (_ : (Lit.int .i64 a).wf = true) (_ : (Lit.int .i64 l).wf = true) (_ : (Lit.int .i64 r).wf = true) (wd : (Lit.int .i64 d).wf = true) : ∃ k, laws_FnExactRatioOfTurns.f k a l r d = some true := by
  obtain ⟨k, hk⟩ : ∃ k : Nat, (1000000000000000 : Int) < k := ⟨1000000000000001, by decide⟩
  refine ⟨k, ?_⟩
  by_cases h : isCh a l r d
  · have g := h
    unfold isCh at g
    simp only [laws_FnExactRatioOfTurns.f, laws_toChase.f, spec_RatioOfTurns.f, impl_RatioOfTurns.f, spec_doGood_yes a l r d h, impl_IsChase_yes a l r d h, Option.bind_some, if_true]
    rw [w64 (x := d - l) (by omega), w64 (x := d - r) (by omega), w64 (x := d + l) (by omega), w64 (x := d + r) (by omega), spec_meLow_eq _ _ _ (by omega) (by omega) (by omega) (by omega), impl_lowest_eq _ _ _ (by omega) (by omega) (by omega) (by omega)]
    simp only [Option.bind_some]
    rw [spec_meLow_eq _ _ _ (by omega) (by omega) (by omega) (by omega), impl_lowest_eq _ _ _ (by omega) (by omega) (by omega) (by omega)]
    simp
  · simp [laws_FnExactRatioOfTurns.f, laws_toChase.f, spec_RatioOfTurns.f, impl_RatioOfTurns.f, spec_doGood_no a l r d (bounds_i64 wd) h, impl_IsChase_no a l r d h]

end Go.Proofs.Ytljpjcglnkamnaa.QFnExactRatioOfTurns
