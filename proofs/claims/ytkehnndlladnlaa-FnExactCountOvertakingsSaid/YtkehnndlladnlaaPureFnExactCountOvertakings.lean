/- The law FnExactCountOvertakings in plain Lean, over the printed functions: it returns true for every input (no condition). -/
import Derived.Test.YtkehnndlladnlaaPFnExactCountOvertakingsx3
import Derived.OpenShut
namespace Go.Proofs.Ytkehnndlladnlaa.QFnExactCountOvertakings
open Go.RowKit Go.ChangeShapes Go.WideShapes Go.Proofs.Ytkehnndlladnlaa.PFnExactCountOvertakings Go.Proofs.YtkehnndlladnlaaW.PrintWords Go.Proofs.YtkehnndlladnlaaW.PrintLast Go.Proofs.YtkehnndlladnlaaW.PrintMore
set_option linter.unusedVariables false
set_option linter.unusedSimpArgs false
theorem w64 {x : Int} (h : -9223372036854775808 ≤ x ∧ x ≤ 9223372036854775807) : wrap64 x = x := by unfold wrap64; omega
theorem bm {a b A B : Int} (ha : 0 ≤ a ∧ a ≤ A) (hb : 0 ≤ b ∧ b ≤ B) : 0 ≤ a * b ∧ a * b ≤ A * B :=
  ⟨Int.mul_nonneg ha.1 hb.1, Int.mul_le_mul ha.2 hb.2 hb.1 (Int.le_trans ha.1 ha.2)⟩
theorem gcd_step (a b : Int) (ha : 0 ≤ a) (hb : 0 ≤ b) : Int.gcd b (a.tmod b) = Int.gcd a b := by
  obtain ⟨m, rfl⟩ := Int.eq_ofNat_of_zero_le ha
  obtain ⟨n, rfl⟩ := Int.eq_ofNat_of_zero_le hb
  rw [← Int.ofNat_tmod]
  show Nat.gcd n (m % n) = Nat.gcd m n
  rw [Nat.gcd_comm n, ← Nat.gcd_rec, Nat.gcd_comm]
def lowN (a b : Int) : Int := a / (Int.gcd a b : Int)
def lowD (a b : Int) : Int := b / (Int.gcd a b : Int)
theorem gpos {a b : Int} (hb : 0 < b) : 0 < (Int.gcd a b : Int) := by
  have := Int.gcd_pos_of_ne_zero_right a (show b ≠ 0 by omega)
  omega
theorem gle {a b : Int} (hb : 0 < b) : (Int.gcd a b : Int) ≤ b := Int.le_of_dvd hb (Int.gcd_dvd_right a b)
theorem tdiv_gcd_l (a b : Int) : a.tdiv (Int.gcd a b) = lowN a b := by
  unfold lowN
  exact (Int.tdiv_eq_ediv_of_dvd (Int.gcd_dvd_left a b))
theorem tdiv_gcd_r (a b : Int) : b.tdiv (Int.gcd a b) = lowD a b := by
  unfold lowD
  exact (Int.tdiv_eq_ediv_of_dvd (Int.gcd_dvd_right a b))
theorem low_range {a b M : Int} (hb : 0 < b) (ha : -M ≤ a ∧ a ≤ M) : -M ≤ lowN a b ∧ lowN a b ≤ M := by
  unfold lowN
  have g := gpos (a := a) hb
  have hM : 0 ≤ M := by omega
  have e := Int.ediv_mul_cancel (Int.gcd_dvd_left a b)
  constructor
  · apply Int.le_ediv_of_mul_le g
    have : -M * (Int.gcd a b : Int) ≤ -M * 1 := Int.mul_le_mul_of_nonpos_left (by omega) (by omega)
    omega
  · rcases Int.le_total 0 a with h | h
    · have := Int.ediv_le_self (Int.gcd a b : Int) h
      omega
    · have := Int.ediv_le_ediv g h
      rw [Int.zero_ediv] at this
      omega
theorem lowD_range {a b : Int} (hb : 0 < b) : 1 ≤ lowD a b ∧ lowD a b ≤ b := by
  unfold lowD
  have g := gpos (a := a) hb
  constructor
  · apply Int.le_ediv_of_mul_le g
    have := gle (a := a) hb
    omega
  · exact Int.ediv_le_self _ (by omega)
theorem bms {a b A B : Int} (ha : -A ≤ a ∧ a ≤ A) (hb : 0 ≤ b ∧ b ≤ B) : -(A * B) ≤ a * b ∧ a * b ≤ A * B := by
  have hA : 0 ≤ A := by omega
  rcases Int.le_total 0 a with h | h
  · have := bm ⟨h, ha.2⟩ hb
    have := Int.mul_nonneg hA (Int.le_trans hb.1 hb.2)
    omega
  · have := bm (a := -a) (A := A) ⟨by omega, by omega⟩ hb
    have e : -a * b = -(a * b) := Int.neg_mul a b
    omega
theorem low_scale (a b c : Int) (hc : 0 < c) : lowN (a * c) (b * c) = lowN a b ∧ lowD (a * c) (b * c) = lowD a b := by
  have e : (Int.gcd (a * c) (b * c) : Int) = (Int.gcd a b : Int) * c := by
    rw [Int.gcd_mul_right]
    have : (c.natAbs : Int) = c := by omega
    rw [Int.natCast_mul, this]
  unfold lowN lowD
  rw [e]
  exact ⟨Int.mul_ediv_mul_of_pos_left a _ hc, Int.mul_ediv_mul_of_pos_left b _ hc⟩
theorem w64b {x B : Int} (h : 0 ≤ x ∧ x ≤ B) (hB : B ≤ 9223372036854775807) : wrap64 x = x := w64 ⟨Int.le_trans (by decide) h.1, Int.le_trans h.2 hB⟩
theorem ad {x y A B : Int} (hx : 0 ≤ x ∧ x ≤ A) (hy : 0 ≤ y ∧ y ≤ B) : 0 ≤ x + y ∧ x + y ≤ A + B := ⟨Int.add_nonneg hx.1 hy.1, Int.add_le_add hx.2 hy.2⟩

theorem spec_l1In_eq (a b c : Int) : spec_l1In.f a b c = some (decide (b ≤ a ∧ a ≤ c)) := by
  unfold spec_l1In.f
  by_cases h : b ≤ a <;> simp [h]

theorem spec_trLap_eq (a : Int) : spec_trLap.f a = some (decide (2 ≤ a ∧ a ≤ 1000)) := by
  simp only [spec_trLap.f, spec_l1In_eq, Option.bind_some]

/-- a runner of a track -/
def isRun (a s v : Int) : Prop := (0 ≤ s ∧ s ≤ a - 1) ∧ (1 ≤ v ∧ v ≤ 100)
instance (a s v : Int) : Decidable (isRun a s v) := by unfold isRun; infer_instance
theorem spec_trRunner_eq (a s v : Int) : spec_trRunner.f a s v = some (decide ((2 ≤ a ∧ a ≤ 1000) ∧ isRun a s v)) := by
  simp only [spec_trRunner.f, spec_trLap_eq, spec_l1In_eq, Option.bind_some]
  by_cases h1 : 2 ≤ a ∧ a ≤ 1000
  · rw [w64 (x := a - 1) (by omega)]
    by_cases h2 : 0 ≤ s ∧ s ≤ a - 1
    · by_cases h3 : 1 ≤ v ∧ v ≤ 100
      · have : isRun a s v := ⟨h2, h3⟩
        simp [h1, h2, h3, this]
      · have : ¬ isRun a s v := fun z => h3 z.2
        simp [h1, h2, h3, this]
    · have : ¬ isRun a s v := fun z => h2 z.1
      simp [h1, h2, this]
  · simp [h1]

theorem spec_trTwo_eq (a s v t u : Int) : spec_trTwo.f a s v t u = some (decide (((2 ≤ a ∧ a ≤ 1000) ∧ isRun a s v) ∧ ((2 ≤ a ∧ a ≤ 1000) ∧ isRun a t u))) := by
  simp only [spec_trTwo.f, spec_trRunner_eq, Option.bind_some]
  by_cases h : (2 ≤ a ∧ a ≤ 1000) ∧ isRun a s v <;> simp [h]

theorem spec_trTime_eq (a : Int) : spec_trTime.f a = some (decide (0 ≤ a ∧ a ≤ 1000000)) := by
  simp only [spec_trTime.f, spec_l1In_eq, Option.bind_some]

theorem impl_within_eq (a b c : Int) : impl_within.f a b c = some (decide (b ≤ a ∧ a ≤ c)) := by
  unfold impl_within.f
  by_cases h : b ≤ a <;> simp [h]

theorem impl_isRunner_eq (a s v : Int) (h1 : 2 ≤ a ∧ a ≤ 1000) : impl_isRunner.f a s v = some (decide (isRun a s v)) := by
  simp only [impl_isRunner.f, impl_within_eq, Option.bind_some]
  rw [w64 (x := a - 1) (by omega)]
  by_cases h2 : 0 ≤ s ∧ s ≤ a - 1
  · by_cases h3 : 1 ≤ v ∧ v ≤ 100
    · have : isRun a s v := ⟨h2, h3⟩
      simp [h2, h3, this]
    · have : ¬ isRun a s v := fun z => h3 z.2
      simp [h2, h3, this]
  · have : ¬ isRun a s v := fun z => h2 z.1
    simp [h2, this]

theorem noRun_eq (a : Int) (x : S26) (h1 : 2 ≤ a ∧ a ≤ 1000) : noRun a x = !(decide (isRun a x.f0 x.f1)) := by
  unfold noRun
  rw [impl_isRunner_eq a x.f0 x.f1 h1]
  rfl
/-- runners of a track -/
def areRun (a : Int) (l : List S26) : Prop := (2 ≤ a ∧ a ≤ 1000) ∧ (1 ≤ l.length ∧ l.length ≤ 6) ∧ ∀ x ∈ l, isRun a x.f0 x.f1
instance (a : Int) (l : List S26) : Decidable (areRun a l) := by unfold areRun; infer_instance
theorem impl_AreRunners_eq (a : Int) (l : List S26) : impl_AreRunners.f a l = some (decide (areRun a l)) := by
  unfold impl_AreRunners.f
  rw [impl_within_eq, impl_within_eq]
  simp only [Option.bind_some]
  by_cases h1 : 2 ≤ a ∧ a ≤ 1000
  · by_cases h2 : 1 ≤ (l.length : Int) ∧ (l.length : Int) ≤ 6
    · simp only [h1, h2, and_self, decide_true, if_true, Option.some.injEq]
      by_cases h3 : ∀ x ∈ l, isRun a x.f0 x.f1
      · have z : areRun a l := ⟨h1, by omega, h3⟩
        rw [decide_eq_true z, Bool.not_eq_true', List.any_eq_false]
        intro x hx
        rw [noRun_eq a x h1]
        simp [h3 x hx]
      · have z : ¬ areRun a l := fun y => h3 y.2.2
        rw [decide_eq_false z, Bool.not_eq_false', List.any_eq_true]
        have ⟨x, hx⟩ := Classical.not_forall.mp h3
        have ⟨hm, hn⟩ := Classical.not_imp.mp hx
        exact ⟨x, hm, by rw [noRun_eq a x h1]; simp [hn]⟩
    · have z : ¬ areRun a l := fun y => h2 (by have := y.2.1; omega)
      simp only [h1, h2, and_self, decide_true, decide_false, if_true, Bool.false_eq_true, if_false, decide_eq_false z]
  · have z : ¬ areRun a l := fun y => h1 y.1
    simp only [h1, decide_false, Bool.false_eq_true, if_false, decide_eq_false z]

theorem impl_onTrack_eq (a : Int) (l : List S26) : impl_onTrack.f a l = some (decide (areRun a l)) := by
  unfold impl_onTrack.f
  rw [impl_AreRunners_eq]
  rfl
theorem areRun_two (a s v t u : Int) : areRun a [⟨s, v⟩, ⟨t, u⟩] ↔ ((2 ≤ a ∧ a ≤ 1000) ∧ isRun a s v) ∧ ((2 ≤ a ∧ a ≤ 1000) ∧ isRun a t u) := by
  unfold areRun
  simp
  constructor
  · rintro ⟨h1, h2, h3⟩
    exact ⟨⟨h1, h2⟩, h1, h3⟩
  · rintro ⟨⟨h1, h2⟩, _, h3⟩
    exact ⟨h1, h2, h3⟩

theorem impl_isRunTime_eq (a : Int) : impl_isRunTime.f a = some (decide (0 ≤ a ∧ a ≤ 1000000)) := by
  simp only [impl_isRunTime.f, impl_within_eq, Option.bind_some]

/-- both round down in one way -/
theorem down_same (n b : Int) (hb : 2 ≤ b ∧ b ≤ 1000) (hn : -200000000 ≤ n ∧ n ≤ 200000000) : spec_trDown.f n b = some (n / b) ∧ impl_floorDiv.f n b = some (n / b) := by
  have q := Int.mul_ediv_add_emod n b
  have r1 := Int.emod_nonneg n (show b ≠ 0 by omega)
  have r2 := Int.emod_lt_of_pos n (show 0 < b by omega)
  have lo : -200000000 ≤ n / b := by
    apply Int.le_ediv_of_mul_le (by omega)
    omega
  have hi : n / b ≤ 200000000 := by
    rcases Int.le_total 0 n with z | z
    · have := Int.ediv_le_self b z
      omega
    · have := Int.ediv_le_ediv (show 0 < b by omega) z
      rw [Int.zero_ediv] at this
      omega
  constructor
  · unfold spec_trDown.f
    by_cases h : n < 0
    · have e : Int.tdiv (b - 1 - n) b = -(n / b) := by
        rw [Int.tdiv_eq_ediv_of_nonneg (by omega)]
        exact ((Int.ediv_emod_unique (r := b - 1 - n % b) (show 0 < b by omega)).2 ⟨by rw [Int.mul_neg]; omega, by omega, by omega⟩).1
      rw [if_pos h, if_neg (by omega), w64 (x := b - 1) (by omega), w64 (x := b - 1 - n) (by omega), e, w64 (x := -(n / b)) (by omega), Int.neg_neg, w64 (by omega)]
    · rw [if_neg h, if_neg (by omega), Int.tdiv_eq_ediv_of_nonneg (by omega), w64 (by omega)]
  · unfold impl_floorDiv.f
    rw [if_neg (by omega)]
    by_cases h : 0 ≤ n
    · rw [Int.tmod_eq_emod_of_nonneg h, if_neg (by omega), Int.tdiv_eq_ediv_of_nonneg h, w64 (by omega)]
    · obtain ⟨m, rfl⟩ : ∃ m, n = -m := ⟨-n, by omega⟩
      have hm : 0 ≤ m := by omega
      have q2 := Int.mul_ediv_add_emod m b
      have s1 := Int.emod_nonneg m (show b ≠ 0 by omega)
      have s2 := Int.emod_lt_of_pos m (show 0 < b by omega)
      have g := Int.ediv_le_self b hm
      have g0 := Int.ediv_nonneg hm (show 0 ≤ b by omega)
      rw [Int.neg_tmod, Int.neg_tdiv, Int.tmod_eq_emod_of_nonneg hm, Int.tdiv_eq_ediv_of_nonneg hm]
      by_cases z : m % b = 0
      · have e : -m / b = -(m / b) := ((Int.ediv_emod_unique (r := 0) (show 0 < b by omega)).2 ⟨by rw [Int.mul_neg]; omega, by omega, by omega⟩).1
        rw [if_neg (by omega), e, w64 (by omega)]
      · have e : -m / b = -(m / b) - 1 := ((Int.ediv_emod_unique (r := b - m % b) (show 0 < b by omega)).2 ⟨by rw [Int.mul_sub, Int.mul_neg]; omega, by omega, by omega⟩).1
        rw [if_pos (by omega), e, w64 (x := -(m / b)) (by omega), w64 (by omega)]
theorem far_spec (s v t : Int) (hs : 0 ≤ s ∧ s ≤ 999) (hv : 1 ≤ v ∧ v ≤ 100) (ht : 0 ≤ t ∧ t ≤ 1000000) : spec_trFar.f s v t = some (s + v * t) ∧ impl_farAt.f s v t = some (s + v * t) ∧ 0 ≤ v * t ∧ v * t ≤ 100000000 := by
  have p := bm (A := 100) (B := 1000000) (a := v) (b := t) (by omega) ht
  unfold spec_trFar.f impl_farAt.f
  rw [w64 (x := v * t) (by omega), w64 (x := s + v * t) (by omega)]
  exact ⟨rfl, rfl, p⟩
theorem holds (a s v t u n : Int) (_ : (Lit.int .i64 a).wf = true) (_ : (Lit.int .i64 s).wf = true) (_ : (Lit.int .i64 v).wf = true) (_ : (Lit.int .i64 t).wf = true) (_ : (Lit.int .i64 u).wf = true) (_ : (Lit.int .i64 n).wf = true) :
    ∃ k, laws_FnExactCountOvertakings.f k a s v t u n = some true := by
  refine ⟨1, ?_⟩
  by_cases h : ((2 ≤ a ∧ a ≤ 1000) ∧ isRun a s v) ∧ ((2 ≤ a ∧ a ≤ 1000) ∧ isRun a t u)
  · have h' := (areRun_two a s v t u).mpr h
    by_cases hn : 0 ≤ n ∧ n ≤ 1000000
    · have es : spec_CountOvertakings.f 1 a s v t u n = spec_CountOvertakings.j0 1 a n false s v t u := by
        simp only [spec_CountOvertakings.f, spec_trTwo_eq, spec_trTime_eq, Option.bind_some, decide_eq_true h, hn, and_self, decide_true, if_true, Bool.not_true]
      have ei : impl_CountOvertakings.f 1 a s v t u n = impl_CountOvertakings.j0 1 a n false s v t u := by
        simp only [impl_CountOvertakings.f, impl_onTrack_eq, impl_isRunTime_eq, Option.bind_some, decide_eq_true h', hn, and_self, decide_true, if_true, Bool.not_true]
      obtain ⟨⟨ha, hr1⟩, _, hr2⟩ := h
      unfold isRun at hr1 hr2
      obtain ⟨f1, g1, _⟩ := far_spec s v 0 (by omega) hr1.2 (by omega)
      obtain ⟨f2, g2, _⟩ := far_spec t u 0 (by omega) hr2.2 (by omega)
      obtain ⟨f3, g3, b3, b3'⟩ := far_spec s v n (by omega) hr1.2 hn
      obtain ⟨f4, g4, b4, b4'⟩ := far_spec t u n (by omega) hr2.2 hn
      rw [Int.mul_zero, Int.add_zero] at f1 g1 f2 g2
      obtain ⟨d1, e1⟩ := down_same (s - t - 1) a ha (by omega)
      obtain ⟨d2, e2⟩ := down_same (s + v * n - (t + u * n) - 1) a ha (by omega)
      have lo1 : (s - t - 1) / a ≤ 2000 ∧ -2000 ≤ (s - t - 1) / a := by
        constructor
        · have := Int.ediv_le_ediv (show 0 < a by omega) (show s - t - 1 ≤ 2000 by omega)
          have := Int.ediv_le_self a (show (0 : Int) ≤ 2000 by omega)
          omega
        · apply Int.le_ediv_of_mul_le (by omega)
          omega
      have lo2 : (s + v * n - (t + u * n) - 1) / a ≤ 200000000 ∧ -200000000 ≤ (s + v * n - (t + u * n) - 1) / a := by
        constructor
        · have := Int.ediv_le_ediv (show 0 < a by omega) (show s + v * n - (t + u * n) - 1 ≤ 200000000 by omega)
          have := Int.ediv_le_self a (show (0 : Int) ≤ 200000000 by omega)
          omega
        · apply Int.le_ediv_of_mul_le (by omega)
          omega
      have hi : impl_CountOvertakings.f 1 a s v t u n = some (mx 0 ((s + v * n - (t + u * n) - 1) / a - (s - t - 1) / a), true) := by
        rw [ei]
        simp only [impl_CountOvertakings.j0, Bool.false_eq_true, if_false, g1, g2, g3, g4, Option.bind_some]
        rw [w64 (x := s - t) (by omega), w64 (x := s - t - 1) (by omega), w64 (x := s + v * n - (t + u * n)) (by omega), w64 (x := s + v * n - (t + u * n) - 1) (by omega), e2]
        simp only [Option.bind_some]
        rw [e1]
        simp only [Option.bind_some]
        rw [w64 (by omega)]
      have vn : v ≤ u → v * n ≤ u * n := fun z => Int.mul_le_mul_of_nonneg_right z hn.1
      have un : u ≤ v → u * n ≤ v * n := fun z => Int.mul_le_mul_of_nonneg_right z hn.1
      have hs : spec_CountOvertakings.f 1 a s v t u n = some (mx 0 ((s + v * n - (t + u * n) - 1) / a - (s - t - 1) / a), true) := by
        rw [es]
        by_cases z : v ≤ u
        · simp only [spec_CountOvertakings.j0, Bool.false_eq_true, if_false, z, if_true]
          have := vn z
          have := Int.ediv_le_ediv (show 0 < a by omega) (show s + v * n - (t + u * n) - 1 ≤ s - t - 1 by omega)
          unfold mx
          split <;> simp only [Option.some.injEq, Prod.mk.injEq, and_true] <;> omega
        · simp only [spec_CountOvertakings.j0, Bool.false_eq_true, if_false, z, f1, f2, f3, f4, Option.bind_some]
          rw [w64 (x := s - t) (by omega), w64 (x := s - t - 1) (by omega), w64 (x := s + v * n - (t + u * n)) (by omega), w64 (x := s + v * n - (t + u * n) - 1) (by omega), d2]
          simp only [Option.bind_some]
          rw [d1]
          simp only [Option.bind_some]
          have := un (by omega)
          have := Int.ediv_le_ediv (show 0 < a by omega) (show s - t - 1 ≤ s + v * n - (t + u * n) - 1 by omega)
          rw [w64 (by omega)]
          unfold mx
          split <;> simp only [Option.some.injEq, Prod.mk.injEq, and_true] <;> omega
      simp [laws_FnExactCountOvertakings.f, laws_toRunner.f, hs, hi]
    · have hs : spec_CountOvertakings.f 1 a s v t u n = some (0, false) := by
        simp only [spec_CountOvertakings.f, spec_trTwo_eq, spec_trTime_eq, Option.bind_some, decide_eq_true h, hn, decide_false, if_true, Bool.not_false, spec_CountOvertakings.j0]
      have hi : impl_CountOvertakings.f 1 a s v t u n = some (0, false) := by
        simp only [impl_CountOvertakings.f, impl_onTrack_eq, impl_isRunTime_eq, Option.bind_some, decide_eq_true h', hn, decide_false, if_true, Bool.not_false, impl_CountOvertakings.j0]
      simp [laws_FnExactCountOvertakings.f, laws_toRunner.f, hs, hi]
  · have h' : ¬ areRun a [⟨s, v⟩, ⟨t, u⟩] := fun z => h ((areRun_two a s v t u).mp z)
    have hs : spec_CountOvertakings.f 1 a s v t u n = some (0, false) := by
      simp only [spec_CountOvertakings.f, spec_trTwo_eq, Option.bind_some, decide_eq_false h, Bool.false_eq_true, if_false, spec_CountOvertakings.j0, if_true]
    have hi : impl_CountOvertakings.f 1 a s v t u n = some (0, false) := by
      simp only [impl_CountOvertakings.f, impl_onTrack_eq, Option.bind_some, decide_eq_false h', Bool.false_eq_true, if_false, impl_CountOvertakings.j0, if_true]
    simp [laws_FnExactCountOvertakings.f, laws_toRunner.f, hs, hi]

end Go.Proofs.Ytkehnndlladnlaa.QFnExactCountOvertakings
