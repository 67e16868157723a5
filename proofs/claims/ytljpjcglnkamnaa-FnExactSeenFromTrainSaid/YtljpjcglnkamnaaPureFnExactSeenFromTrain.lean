/- The law FnExactSeenFromTrain in plain Lean, over the printed functions: it returns true for every input (no condition). -/
import Derived.Test.YtljpjcglnkamnaaPFnExactSeenFromTrainx3
import Derived.OpenShut
namespace Go.Proofs.Ytljpjcglnkamnaa.QFnExactSeenFromTrain
open Go.RowKit Go.ChangeShapes Go.WideShapes Go.Proofs.Ytljpjcglnkamnaa.PFnExactSeenFromTrain Go.Proofs.YtljpjcglnkamnaaW.PrintWords Go.Proofs.YtljpjcglnkamnaaW.PrintLast Go.Proofs.YtljpjcglnkamnaaW.PrintMore
set_option linter.unusedVariables false
set_option linter.unusedSimpArgs false
theorem w64 {x : Int} (h : -9223372036854775808 ≤ x ∧ x ≤ 9223372036854775807) : wrap64 x = x := by unfold wrap64; omega
theorem bm {a b A B : Int} (ha : 0 ≤ a ∧ a ≤ A) (hb : 0 ≤ b ∧ b ≤ B) : 0 ≤ a * b ∧ a * b ≤ A * B :=
  ⟨Int.mul_nonneg ha.1 hb.1, Int.mul_le_mul ha.2 hb.2 hb.1 (Int.le_trans ha.1 ha.2)⟩
theorem gcd_step (a b : Int) (ha : 0 ≤ a) (hb : 0 ≤ b) : Int.gcd b (a.tmod b) = Int.gcd a b := by
  obtain ⟨m, rfl⟩ := Int.eq_ofNat_of_zero_le ha
  obtain ⟨n, rfl⟩ := Int.eq_ofNat_of_zero_le hb
  rw [← Int.ofNat_tmod]
  show Nat.gcd n (m % n) = Nat.gcd m n
  rw [Nat.gcd_comm n, ← Nat.gcd_rec, Nat.gcd_comm]
def lowN (a b : Int) : Int := a / (Int.gcd a b : Int)
def lowD (a b : Int) : Int := b / (Int.gcd a b : Int)
theorem gpos {a b : Int} (hb : 0 < b) : 0 < (Int.gcd a b : Int) := by
  have := Int.gcd_pos_of_ne_zero_right a (show b ≠ 0 by omega)
  omega
theorem gle {a b : Int} (hb : 0 < b) : (Int.gcd a b : Int) ≤ b := Int.le_of_dvd hb (Int.gcd_dvd_right a b)
theorem tdiv_gcd_l (a b : Int) : a.tdiv (Int.gcd a b) = lowN a b := by
  unfold lowN
  exact (Int.tdiv_eq_ediv_of_dvd (Int.gcd_dvd_left a b))
theorem tdiv_gcd_r (a b : Int) : b.tdiv (Int.gcd a b) = lowD a b := by
  unfold lowD
  exact (Int.tdiv_eq_ediv_of_dvd (Int.gcd_dvd_right a b))
theorem low_range {a b M : Int} (hb : 0 < b) (ha : -M ≤ a ∧ a ≤ M) : -M ≤ lowN a b ∧ lowN a b ≤ M := by
  unfold lowN
  have g := gpos (a := a) hb
  have hM : 0 ≤ M := by omega
  have e := Int.ediv_mul_cancel (Int.gcd_dvd_left a b)
  constructor
  · apply Int.le_ediv_of_mul_le g
    have : -M * (Int.gcd a b : Int) ≤ -M * 1 := Int.mul_le_mul_of_nonpos_left (by omega) (by omega)
    omega
  · rcases Int.le_total 0 a with h | h
    · have := Int.ediv_le_self (Int.gcd a b : Int) h
      omega
    · have := Int.ediv_le_ediv g h
      rw [Int.zero_ediv] at this
      omega
theorem lowD_range {a b : Int} (hb : 0 < b) : 1 ≤ lowD a b ∧ lowD a b ≤ b := by
  unfold lowD
  have g := gpos (a := a) hb
  constructor
  · apply Int.le_ediv_of_mul_le g
    have := gle (a := a) hb
    omega
  · exact Int.ediv_le_self _ (by omega)
theorem bms {a b A B : Int} (ha : -A ≤ a ∧ a ≤ A) (hb : 0 ≤ b ∧ b ≤ B) : -(A * B) ≤ a * b ∧ a * b ≤ A * B := by
  have hA : 0 ≤ A := by omega
  rcases Int.le_total 0 a with h | h
  · have := bm ⟨h, ha.2⟩ hb
    have := Int.mul_nonneg hA (Int.le_trans hb.1 hb.2)
    omega
  · have := bm (a := -a) (A := A) ⟨by omega, by omega⟩ hb
    have e : -a * b = -(a * b) := Int.neg_mul a b
    omega
theorem low_scale (a b c : Int) (hc : 0 < c) : lowN (a * c) (b * c) = lowN a b ∧ lowD (a * c) (b * c) = lowD a b := by
  have e : (Int.gcd (a * c) (b * c) : Int) = (Int.gcd a b : Int) * c := by
    rw [Int.gcd_mul_right]
    have : (c.natAbs : Int) = c := by omega
    rw [Int.natCast_mul, this]
  unfold lowN lowD
  rw [e]
  exact ⟨Int.mul_ediv_mul_of_pos_left a _ hc, Int.mul_ediv_mul_of_pos_left b _ hc⟩

theorem spec_l1In_eq (a b c : Int) : spec_l1In.f a b c = some (decide (b ≤ a ∧ a ≤ c)) := by
  unfold spec_l1In.f
  by_cases h : b ≤ a <;> simp [h]

theorem spec_tiGood_eq (a b : Int) : spec_tiGood.f a b = some (decide ((1 ≤ a ∧ a ≤ 1000) ∧ (1 ≤ b ∧ b ≤ 100))) := by
  simp only [spec_tiGood.f, spec_l1In_eq, Option.bind_some]
  by_cases h : 1 ≤ a ∧ a ≤ 1000 <;> simp [h]

theorem spec_tiTwo_eq (a b c d : Int) : spec_tiTwo.f a b c d = some (decide (((1 ≤ a ∧ a ≤ 1000) ∧ (1 ≤ b ∧ b ≤ 100)) ∧ ((1 ≤ c ∧ c ≤ 1000) ∧ (1 ≤ d ∧ d ≤ 100)))) := by
  simp only [spec_tiTwo.f, spec_tiGood_eq, Option.bind_some]
  by_cases h : (1 ≤ a ∧ a ≤ 1000) ∧ (1 ≤ b ∧ b ≤ 100) <;> simp [h]

theorem spec_trCommon_l0 (n : Nat) : ∀ (k : Nat) (a b : Int), 0 ≤ a → 0 ≤ b → b ≤ n → n < k → spec_trCommon.l0 k a b = some (Int.gcd a b : Int) := by
  induction n with
  | zero =>
    intro k a b ha hb hn hk
    obtain ⟨k, rfl⟩ : ∃ m, k = m + 1 := ⟨k - 1, by omega⟩
    obtain rfl : b = 0 := by omega
    simp only [spec_trCommon.l0]
    rw [if_neg (by omega), Int.gcd_zero_right]
    congr 1
    omega
  | succ n ih =>
    intro k a b ha hb hn hk
    obtain ⟨k, rfl⟩ : ∃ m, k = m + 1 := ⟨k - 1, by omega⟩
    simp only [spec_trCommon.l0]
    by_cases h : b > 0
    · rw [if_pos h, if_neg (by omega)]
      have h1 : 0 ≤ a.tmod b := Int.tmod_nonneg b ha
      have h2 : a.tmod b < b := Int.tmod_lt_of_pos a h
      rw [ih k b (a.tmod b) hb h1 (by omega) (by omega), gcd_step a b ha hb]
    · obtain rfl : b = 0 := by omega
      rw [if_neg h, Int.gcd_zero_right]
      congr 1
      omega
theorem spec_trCommon_eq (k : Nat) (a b : Int) (ha : 0 ≤ a) (hb : 0 ≤ b) (hk : b < k) : spec_trCommon.f k a b = some (Int.gcd a b : Int) := by
  unfold spec_trCommon.f
  exact spec_trCommon_l0 b.toNat k a b ha hb (by omega) (by omega)

theorem spec_tiLow_eq (k : Nat) (a b : Int) (hb : 0 < b) (ha : 0 ≤ a ∧ a ≤ 9223372036854775807) (hbb : b ≤ 9223372036854775807) (hk : b < k) :
    spec_tiLow.f k a b = some (lowN a b, lowD a b) := by
  unfold spec_tiLow.f
  have gp := gpos (a := a) hb
  have r1 := low_range (a := a) (M := 9223372036854775807) hb (by omega)
  have r2 := lowD_range (a := a) hb
  rw [spec_trCommon_eq k a b ha.1 (by omega) hk]
  simp only [Option.bind_some]
  rw [if_neg (by omega), tdiv_gcd_l, tdiv_gcd_r, w64 (by omega), w64 (by omega)]

theorem spec_l1Most_eq (a b : Int) : spec_l1Most.f a b = some (if a > b then a else b) := by
  unfold spec_l1Most.f
  split <;> rfl

theorem spec_l1Abs_eq (a : Int) (h : -9223372036854775807 ≤ a ∧ a ≤ 9223372036854775807) : spec_l1Abs.f a = some (Int.natAbs a : Int) := by
  unfold spec_l1Abs.f
  rw [w64 (by omega), spec_l1Most_eq]
  simp only [Option.bind_some, Option.some.injEq]
  split <;> omega

theorem spec_tiRate_eq (a b : Int) (g : Bool) (ha : 1 ≤ a ∧ a ≤ 100) (hb : 1 ≤ b ∧ b ≤ 100) : spec_tiRate.f a b g = some (if g = true then a + b else (Int.natAbs (a - b) : Int)) := by
  unfold spec_tiRate.f
  rw [w64 (x := a + b) (by omega), w64 (x := a - b) (by omega), spec_l1Abs_eq _ (by omega)]
  cases g <;> rfl

theorem impl_within_eq (a b c : Int) : impl_within.f a b c = some (decide (b ≤ a ∧ a ≤ c)) := by
  unfold impl_within.f
  by_cases h : b ≤ a <;> simp [h]

theorem impl_isRate_eq (a : Int) : impl_isRate.f a = some (decide (1 ≤ a ∧ a ≤ 100)) := by
  simp only [impl_isRate.f, impl_within_eq, Option.bind_some]

theorem impl_IsTrain_eq (a b : Int) : impl_IsTrain.f a b = some (decide ((1 ≤ a ∧ a ≤ 1000) ∧ (1 ≤ b ∧ b ≤ 100))) := by
  simp only [impl_IsTrain.f, impl_within_eq, impl_isRate_eq, Option.bind_some]
  by_cases h : 1 ≤ a ∧ a ≤ 1000 <;> simp [h]

theorem impl_absOf_eq (a : Int) (h : -9223372036854775807 ≤ a ∧ a ≤ 9223372036854775807) : impl_absOf.f a = some (Int.natAbs a : Int) := by
  unfold impl_absOf.f mx
  rw [w64 (by omega)]
  simp only [Option.some.injEq]
  split <;> omega

theorem impl_divisorOf_l0 (n : Nat) : ∀ (k : Nat) (a b : Int), 0 ≤ a → 0 ≤ b → b ≤ n → n < k → impl_divisorOf.l0 k a b = some (Int.gcd a b : Int) := by
  induction n with
  | zero =>
    intro k a b ha hb hn hk
    obtain ⟨k, rfl⟩ : ∃ m, k = m + 1 := ⟨k - 1, by omega⟩
    obtain rfl : b = 0 := by omega
    simp only [impl_divisorOf.l0]
    rw [if_neg (by omega), Int.gcd_zero_right]
    congr 1
    omega
  | succ n ih =>
    intro k a b ha hb hn hk
    obtain ⟨k, rfl⟩ : ∃ m, k = m + 1 := ⟨k - 1, by omega⟩
    simp only [impl_divisorOf.l0]
    by_cases h : b > 0
    · rw [if_pos h, if_neg (by omega)]
      have h1 : 0 ≤ a.tmod b := Int.tmod_nonneg b ha
      have h2 : a.tmod b < b := Int.tmod_lt_of_pos a h
      rw [ih k b (a.tmod b) hb h1 (by omega) (by omega), gcd_step a b ha hb]
    · obtain rfl : b = 0 := by omega
      rw [if_neg h, Int.gcd_zero_right]
      congr 1
      omega
theorem impl_divisorOf_eq (k : Nat) (a b : Int) (ha : 0 ≤ a) (hb : 0 ≤ b) (hk : b < k) : impl_divisorOf.f k a b = some (Int.gcd a b : Int) := by
  unfold impl_divisorOf.f
  exact impl_divisorOf_l0 b.toNat k a b ha hb (by omega) (by omega)

theorem impl_lowest_eq (k : Nat) (a b : Int) (hb : 0 < b) (ha : -9223372036854775807 ≤ a ∧ a ≤ 9223372036854775807) (hbb : b ≤ 9223372036854775807) (hk : -(k : Int) < a ∧ a < k) :
    impl_lowest.f k a b = some (lowN a b, lowD a b) := by
  unfold impl_lowest.f
  rw [if_neg (by omega), impl_absOf_eq a ha]
  simp only [Option.bind_some]
  rw [impl_divisorOf_eq k b _ (by omega) (by omega) (by omega)]
  have e : Int.gcd b (a.natAbs : Int) = Int.gcd a b := by
    rw [Int.gcd_comm, Int.gcd, Int.gcd, Int.natAbs_natCast]
  have gp := gpos (a := a) hb
  have r1 := low_range (a := a) hb ha
  have r2 := lowD_range (a := a) hb
  simp only [Option.bind_some, e]
  rw [if_neg (by omega), tdiv_gcd_l, tdiv_gcd_r, w64 (by omega), w64 (by omega)]

theorem impl_fraction_eq (k : Nat) (a b : Int) (hb : 0 < b) (ha : -9223372036854775807 ≤ a ∧ a ≤ 9223372036854775807) (hbb : b ≤ 9223372036854775807) (hk : -(k : Int) < a ∧ a < k) :
    impl_fraction.f k a b = some (lowN a b, lowD a b, true) := by
  unfold impl_fraction.f
  rw [if_neg (by omega), impl_lowest_eq k a b hb ha hbb hk]
  rfl

theorem holds (a b c d : Int) (g : Bool) (_ : (Lit.int .i64 a).wf = true) (_ : (Lit.int .i64 b).wf = true) (_ : (Lit.int .i64 c).wf = true) (_ : (Lit.int .i64 d).wf = true) : ∃ k, laws_FnExactSeenFromTrain.f k a b c d g = some true := by
  obtain ⟨k, hk⟩ : ∃ k : Nat, (1000000000000000 : Int) < k := ⟨1000000000000001, by decide⟩
  refine ⟨k + 1, ?_⟩
  by_cases h1 : (1 ≤ a ∧ a ≤ 1000) ∧ (1 ≤ b ∧ b ≤ 100)
  · by_cases h2 : (1 ≤ c ∧ c ≤ 1000) ∧ (1 ≤ d ∧ d ≤ 100)
    · have e2 : impl_SeenFromTrain.f (k + 1) a b c d g = impl_SeenFromTrain.j0 (k + 1) g false a b c d := by
        simp only [impl_SeenFromTrain.f, impl_IsTrain_eq, Option.bind_some, h1, h2, and_self, decide_true, if_true, Bool.not_true]
      have e1 : spec_SeenFromTrain.f (k + 1) a b c d g = if (if g = true then b + d else ((b - d).natAbs : Int)) = 0 then some (0, 0, false) else (spec_tiLow.f (k + 1) c (if g = true then b + d else ((b - d).natAbs : Int))).bind fun q => some (q.1, q.2, true) := by
        simp only [spec_SeenFromTrain.f, spec_tiTwo_eq, Option.bind_some, h1, h2, and_self, decide_true, if_true]
        rw [spec_tiRate_eq _ _ _ (by omega) (by omega)]
        rfl
      have e3 : impl_SeenFromTrain.j0 (k + 1) g false a b c d = if (if g = true then b + d else ((b - d).natAbs : Int)) = 0 then some (0, 0, false) else (impl_fraction.f k c (if g = true then b + d else ((b - d).natAbs : Int))).bind fun q => some (q.1, q.2.1, q.2.2) := by
        simp only [impl_SeenFromTrain.j0, Bool.false_eq_true, if_false]
        rw [w64 (x := b - d) (by omega), w64 (x := b + d) (by omega), impl_absOf_eq _ (by omega)]
        simp only [Option.bind_some]
        cases g
        · simp only [Bool.false_eq_true, if_false]
          by_cases z : ((b - d).natAbs : Int) = 0
          · rw [if_pos z, z]
            simp [impl_fraction.f]
          · rw [if_neg z]
        · simp only [if_true]
          rw [if_neg (by omega)]
      generalize hv : (if g = true then b + d else ((b - d).natAbs : Int)) = v at e1 e3
      have hv2 : 0 ≤ v ∧ v ≤ 200 := by
        rw [← hv]
        split <;> omega
      by_cases z : v = 0
      · rw [if_pos z] at e1 e3
        simp [laws_FnExactSeenFromTrain.f, laws_toTrain.f, e1, e2, e3]
      · rw [if_neg z, spec_tiLow_eq _ _ _ (by omega) (by omega) (by omega) (by omega)] at e1
        rw [if_neg z, impl_fraction_eq _ _ _ (by omega) (by omega) (by omega) (by omega)] at e3
        simp [laws_FnExactSeenFromTrain.f, laws_toTrain.f, e1, e2, e3]
    · have z1 : spec_SeenFromTrain.f (k + 1) a b c d g = some (0, 0, false) := by
        simp only [spec_SeenFromTrain.f, spec_tiTwo_eq, Option.bind_some, h1, h2, and_false, decide_false, Bool.false_eq_true, if_false]
      have z2 : impl_SeenFromTrain.f (k + 1) a b c d g = some (0, 0, false) := by
        simp only [impl_SeenFromTrain.f, impl_IsTrain_eq, Option.bind_some, h1, h2, and_self, decide_true, decide_false, if_true, Bool.not_false, impl_SeenFromTrain.j0]
      simp [laws_FnExactSeenFromTrain.f, laws_toTrain.f, z1, z2]
  · simp [laws_FnExactSeenFromTrain.f, laws_toTrain.f, spec_SeenFromTrain.f, impl_SeenFromTrain.f, spec_tiTwo_eq, impl_SeenFromTrain.j0, impl_IsTrain_eq, h1]

end Go.Proofs.Ytljpjcglnkamnaa.QFnExactSeenFromTrain
