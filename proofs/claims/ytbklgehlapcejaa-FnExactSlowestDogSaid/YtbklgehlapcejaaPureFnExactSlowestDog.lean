/- The law FnExactSlowestDog in plain Lean, over the printed functions: it returns true for every input (no condition). -/
import Derived.Test.YtbklgehlapcejaaPFnExactSlowestDogx3
import Derived.OpenShut
namespace Go.Proofs.Ytbklgehlapcejaa.QFnExactSlowestDog
open Go.RowKit Go.ChangeShapes Go.WideShapes Go.Proofs.Ytbklgehlapcejaa.PFnExactSlowestDog Go.Proofs.YtbklgehlapcejaaW.PrintWords Go.Proofs.YtbklgehlapcejaaW.PrintLast Go.Proofs.YtbklgehlapcejaaW.PrintMore
set_option linter.unusedVariables false
set_option linter.unusedSimpArgs false
theorem w64 {x : Int} (h : -9223372036854775808 ≤ x ∧ x ≤ 9223372036854775807) : wrap64 x = x := by unfold wrap64; omega
theorem bm {a b A B : Int} (ha : 0 ≤ a ∧ a ≤ A) (hb : 0 ≤ b ∧ b ≤ B) : 0 ≤ a * b ∧ a * b ≤ A * B :=
  ⟨Int.mul_nonneg ha.1 hb.1, Int.mul_le_mul ha.2 hb.2 hb.1 (Int.le_trans ha.1 ha.2)⟩
theorem gcd_step (a b : Int) (ha : 0 ≤ a) (hb : 0 ≤ b) : Int.gcd b (a.tmod b) = Int.gcd a b := by
  obtain ⟨m, rfl⟩ := Int.eq_ofNat_of_zero_le ha
  obtain ⟨n, rfl⟩ := Int.eq_ofNat_of_zero_le hb
  rw [← Int.ofNat_tmod]
  show Nat.gcd n (m % n) = Nat.gcd m n
  rw [Nat.gcd_comm n, ← Nat.gcd_rec, Nat.gcd_comm]
def lowN (a b : Int) : Int := a / (Int.gcd a b : Int)
def lowD (a b : Int) : Int := b / (Int.gcd a b : Int)
theorem gpos {a b : Int} (hb : 0 < b) : 0 < (Int.gcd a b : Int) := by
  have := Int.gcd_pos_of_ne_zero_right a (show b ≠ 0 by omega)
  omega
theorem gle {a b : Int} (hb : 0 < b) : (Int.gcd a b : Int) ≤ b := Int.le_of_dvd hb (Int.gcd_dvd_right a b)
theorem tdiv_gcd_l (a b : Int) : a.tdiv (Int.gcd a b) = lowN a b := by
  unfold lowN
  exact (Int.tdiv_eq_ediv_of_dvd (Int.gcd_dvd_left a b))
theorem tdiv_gcd_r (a b : Int) : b.tdiv (Int.gcd a b) = lowD a b := by
  unfold lowD
  exact (Int.tdiv_eq_ediv_of_dvd (Int.gcd_dvd_right a b))
theorem low_range {a b M : Int} (hb : 0 < b) (ha : -M ≤ a ∧ a ≤ M) : -M ≤ lowN a b ∧ lowN a b ≤ M := by
  unfold lowN
  have g := gpos (a := a) hb
  have hM : 0 ≤ M := by omega
  have e := Int.ediv_mul_cancel (Int.gcd_dvd_left a b)
  constructor
  · apply Int.le_ediv_of_mul_le g
    have : -M * (Int.gcd a b : Int) ≤ -M * 1 := Int.mul_le_mul_of_nonpos_left (by omega) (by omega)
    omega
  · rcases Int.le_total 0 a with h | h
    · have := Int.ediv_le_self (Int.gcd a b : Int) h
      omega
    · have := Int.ediv_le_ediv g h
      rw [Int.zero_ediv] at this
      omega
theorem lowD_range {a b : Int} (hb : 0 < b) : 1 ≤ lowD a b ∧ lowD a b ≤ b := by
  unfold lowD
  have g := gpos (a := a) hb
  constructor
  · apply Int.le_ediv_of_mul_le g
    have := gle (a := a) hb
    omega
  · exact Int.ediv_le_self _ (by omega)

theorem spec_l1In_eq (a b c : Int) : spec_l1In.f a b c = some (decide (b ≤ a ∧ a ≤ c)) := by
  unfold spec_l1In.f
  by_cases h : b ≤ a <;> simp [h]

theorem spec_l1Most_eq (a b : Int) : spec_l1Most.f a b = some (if a > b then a else b) := by
  unfold spec_l1Most.f
  split <;> rfl

/-- what a chase is -/
def isCh (a l r d : Int) : Prop := (1 ≤ a ∧ a ≤ 1000) ∧ (0 ≤ l ∧ l ≤ 20) ∧ (0 ≤ r ∧ r ≤ 20) ∧ 0 < l + r ∧ l < d ∧ r < d ∧ d ≤ 20
theorem spec_doGood_no (a l r d : Int) (wd : -9223372036854775808 ≤ d ∧ d ≤ 9223372036854775807) (h : ¬ isCh a l r d) : spec_doGood.f a l r d = some false := by
  unfold isCh at h
  simp only [spec_doGood.f, spec_l1In_eq, spec_l1Most_eq, Option.bind_some]
  by_cases h1 : 1 ≤ a ∧ a ≤ 1000
  · by_cases h2 : 0 ≤ l ∧ l ≤ 20
    · by_cases h3 : 0 ≤ r ∧ r ≤ 20
      · simp only [h1, h2, h3, and_self, decide_true, if_true]
        rw [w64 (by omega)]
        by_cases h4 : l + r > 0
        · rw [if_pos h4, w64 (by split <;> omega)]
          simp only [Option.some.injEq, decide_eq_false_iff_not]
          split <;> omega
        · rw [if_neg h4]
      · simp [h1, h2, h3]
    · simp [h1, h2]
  · simp [h1]
theorem spec_doGood_yes (a l r d : Int) (h : isCh a l r d) : spec_doGood.f a l r d = some true := by
  unfold isCh at h
  obtain ⟨h1, h2, h3, h4, h5, h6, h7⟩ := h
  simp only [spec_doGood.f, spec_l1In_eq, spec_l1Most_eq, Option.bind_some, h1, h2, h3, and_self, decide_true, if_true]
  rw [w64 (by omega), if_pos (show l + r > 0 by omega), w64 (by split <;> omega)]
  simp only [Option.some.injEq, decide_eq_true_eq]
  split <;> omega

def isTime (a l r n e : Int) : Prop := (0 ≤ n ∧ n ≤ 1000) ∧ (1 ≤ e ∧ e ≤ 100) ∧ n * (l + r) ≤ a * e
instance (a l r n e : Int) : Decidable (isTime a l r n e) := by unfold isTime; infer_instance
theorem spec_doTime_eq (a l r d n e : Int) (h : isCh a l r d) : spec_doTime.f a l r d n e = some (decide (isTime a l r n e)) := by
  unfold isCh at h
  unfold isTime
  simp only [spec_doTime.f, spec_l1In_eq, Option.bind_some]
  by_cases h1 : 0 ≤ n ∧ n ≤ 1000
  · by_cases h2 : 1 ≤ e ∧ e ≤ 100
    · have p1 := bm (A := 1000) (B := 40) (a := n) (b := l + r) (by omega) (by omega)
      have p2 := bm (A := 1000) (B := 100) (a := a) (b := e) (by omega) (by omega)
      rw [w64 (x := l + r) (by omega), w64 (x := n * (l + r)) (by omega), w64 (x := a * e) (by omega)]
      simp [h1, h2]
    · simp [h1, h2]
  · simp [h1]

theorem impl_within_eq (a b c : Int) : impl_within.f a b c = some (decide (b ≤ a ∧ a ≤ c)) := by
  unfold impl_within.f
  by_cases h : b ≤ a <;> simp [h]

theorem impl_IsChase_no (a l r d : Int) (h : ¬ isCh a l r d) : impl_IsChase.f a l r d = some false := by
  unfold isCh at h
  simp only [impl_IsChase.f, impl_within_eq, Option.bind_some]
  by_cases h1 : 1 ≤ a ∧ a ≤ 1000
  · by_cases h2 : 0 ≤ l ∧ l ≤ 20
    · by_cases h3 : 0 ≤ r ∧ r ≤ 20
      · simp only [h1, h2, h3, and_self, decide_true, if_true]
        rw [w64 (by omega)]
        by_cases h4 : l + r > 0
        · rw [if_pos h4]
          by_cases h5 : d > mx l r
          · rw [if_pos h5]
            unfold mx at h5
            simp only [Option.some.injEq, decide_eq_false_iff_not]
            split at h5 <;> omega
          · rw [if_neg h5]
        · rw [if_neg h4]
      · simp [h1, h2, h3]
    · simp [h1, h2]
  · simp [h1]
theorem impl_IsChase_yes (a l r d : Int) (h : isCh a l r d) : impl_IsChase.f a l r d = some true := by
  unfold isCh at h
  obtain ⟨h1, h2, h3, h4, h5, h6, h7⟩ := h
  simp only [impl_IsChase.f, impl_within_eq, Option.bind_some, h1, h2, h3, and_self, decide_true, if_true]
  rw [w64 (by omega), if_pos (show l + r > 0 by omega), if_pos (show d > mx l r by unfold mx; split <;> omega)]
  simp [h7]

theorem impl_isChaseTime_eq (a l r d n e : Int) (h : isCh a l r d) : impl_isChaseTime.f a l r d n e = some (decide (isTime a l r n e)) := by
  have hc := impl_IsChase_yes a l r d h
  unfold isCh at h
  unfold isTime
  simp only [impl_isChaseTime.f, hc, impl_within_eq, Option.bind_some, if_true]
  by_cases h1 : 0 ≤ n ∧ n ≤ 1000
  · by_cases h2 : 1 ≤ e ∧ e ≤ 100
    · have p1 := bm (A := 1000) (B := 40) (a := n) (b := l + r) (by omega) (by omega)
      have p2 := bm (A := 1000) (B := 100) (a := a) (b := e) (by omega) (by omega)
      rw [w64 (x := l + r) (by omega), w64 (x := n * (l + r)) (by omega), w64 (x := a * e) (by omega)]
      simp [h1, h2]
    · simp [h1, h2]
  · simp [h1]
theorem impl_isChaseTime_no (a l r d n e : Int) (h : ¬ isCh a l r d) : impl_isChaseTime.f a l r d n e = some false := by
  simp only [impl_isChaseTime.f, impl_IsChase_no a l r d h, Option.bind_some]
  rfl

/-- both search the least dog in the same way -/
theorem slowest_l0 (a l r d n e : Int) (q : Nat) : ∀ (k : Nat) (x : Int), -100 ≤ x → x ≤ 100 → 21 - x ≤ q → q < k → ∃ y, spec_SlowestDog.l0 k n e x a l r d = some y ∧ impl_SlowestDog.l0 k n e x a l r d = some y := by
  induction q with
  | zero =>
    intro k x h0 h1 hq hk
    obtain ⟨k, rfl⟩ : ∃ m, k = m + 1 := ⟨k - 1, by omega⟩
    refine ⟨(0, false), ?_, ?_⟩
    · simp only [spec_SlowestDog.l0]
      rw [if_neg (by omega)]
    · simp only [impl_SlowestDog.l0]
      rw [if_neg (by omega)]
  | succ q ih =>
    intro k x h0 h1 hq hk
    obtain ⟨k, rfl⟩ : ∃ m, k = m + 1 := ⟨k - 1, by omega⟩
    simp only [spec_SlowestDog.l0, impl_SlowestDog.l0]
    by_cases h2 : x ≤ 20
    · rw [if_pos h2, if_pos h2]
      by_cases h3 : wrap64 (a * e) ≤ wrap64 (n * (wrap64 (x + r)))
      · rw [if_pos h3, if_pos h3]
        exact ⟨_, rfl, rfl⟩
      · rw [if_neg h3, if_neg h3, w64 (x := x + 1) (by omega)]
        exact ih k (x + 1) (by omega) (by omega) (by omega) (by omega)
    · rw [if_neg h2, if_neg h2]
      exact ⟨_, rfl, rfl⟩
theorem slowest_both (k : Nat) (hk : 50 < k) (a l r d n e : Int) (wd : -9223372036854775808 ≤ d ∧ d ≤ 9223372036854775807) :
    ∃ y, spec_SlowestDog.f k a l r d n e = some y ∧ impl_SlowestDog.f k a l r d n e = some y := by
  obtain ⟨k, rfl⟩ : ∃ m, k = m + 1 := ⟨k - 1, by omega⟩
  by_cases h : isCh a l r d
  · have g := h
    unfold isCh at g
    by_cases t : isTime a l r n e
    · obtain ⟨y, y1, y2⟩ := slowest_l0 a l r d n e 21 k ((if l > r then l else r) + 1) (by split <;> omega) (by split <;> omega) (by split <;> omega) (by omega)
      obtain ⟨z, z1, z2⟩ := slowest_l0 a l r d n e 21 (k + 1) ((if l > r then l else r) + 1) (by split <;> omega) (by split <;> omega) (by split <;> omega) (by omega)
      have yz : y = z := by
        have := spec_SlowestDog.mono_l k
        have m := (this.2 _ _ _ _ _ _ _) _ y1
        rw [z1] at m
        exact (Option.some.inj m).symm
      subst yz
      refine ⟨y, ?_, ?_⟩
      · simp only [spec_SlowestDog.f, spec_doGood_yes a l r d h, spec_doTime_eq a l r d n e h, Option.bind_some, t, decide_true, if_true, spec_SlowestDog.j0, Bool.not_true, Bool.false_eq_true, if_false, spec_l1Most_eq]
        rw [w64 (by split <;> omega)]
        exact y1
      · have em : mx l r = if l > r then l else r := by
          unfold mx
          split <;> split <;> omega
        simp only [impl_SlowestDog.f, impl_isChaseTime_eq a l r d n e h, Option.bind_some, t, decide_true, if_true]
        rw [em, w64 (by split <;> omega)]
        exact z2
    · refine ⟨(0, false), ?_, ?_⟩
      · simp [spec_SlowestDog.f, spec_doGood_yes a l r d h, spec_doTime_eq a l r d n e h, t, spec_SlowestDog.j0]
      · simp [impl_SlowestDog.f, impl_isChaseTime_eq a l r d n e h, t]
  · refine ⟨(0, false), ?_, ?_⟩
    · simp [spec_SlowestDog.f, spec_doGood_no a l r d wd h, spec_SlowestDog.j0]
    · simp [impl_SlowestDog.f, impl_isChaseTime_no a l r d n e h]

theorem holds (a l r d n e : Int) (_ : (Lit.int .i64 a).wf = true) (_ : (Lit.int .i64 l).wf = true) (_ : (Lit.int .i64 r).wf = true) (wd : (Lit.int .i64 d).wf = true) (_ : (Lit.int .i64 n).wf = true) (_ : (Lit.int .i64 e).wf = true) : ∃ k, laws_FnExactSlowestDog.f k a l r d n e = some true := by
  obtain ⟨k, hk⟩ : ∃ k : Nat, 50 < k := ⟨51, by decide⟩
  refine ⟨k, ?_⟩
  obtain ⟨y, y1, y2⟩ := slowest_both k hk a l r d n e (bounds_i64 wd)
  simp [laws_FnExactSlowestDog.f, laws_toChase.f, y1, y2]

end Go.Proofs.Ytbklgehlapcejaa.QFnExactSlowestDog
