/- The law FnDogsChase in plain Lean, over the printed functions: it returns true for every input (no condition). -/
import Derived.Test.YtajlcomankjcjadGreatDoorPFnDogsChasex18
import Derived.OpenShut
namespace Go.Proofs.YtajlcomankjcjadGreatDoor.QFnDogsChase
open Go.RowKit Go.ChangeShapes Go.WideShapes Go.Proofs.YtajlcomankjcjadGreatDoor.PFnDogsChase Go.Proofs.YtajlcomankjcjadGreatDoorW.PrintWords Go.Proofs.YtajlcomankjcjadGreatDoorW.PrintLast Go.Proofs.YtajlcomankjcjadGreatDoorW.PrintMore
set_option linter.unusedVariables false
set_option linter.unusedSimpArgs false
theorem w64 {x : Int} (h : -9223372036854775808 ≤ x ∧ x ≤ 9223372036854775807) : wrap64 x = x := by unfold wrap64; omega
theorem bm {a b A B : Int} (ha : 0 ≤ a ∧ a ≤ A) (hb : 0 ≤ b ∧ b ≤ B) : 0 ≤ a * b ∧ a * b ≤ A * B :=
  ⟨Int.mul_nonneg ha.1 hb.1, Int.mul_le_mul ha.2 hb.2 hb.1 (Int.le_trans ha.1 ha.2)⟩
theorem gcd_step (a b : Int) (ha : 0 ≤ a) (hb : 0 ≤ b) : Int.gcd b (a.tmod b) = Int.gcd a b := by
  obtain ⟨m, rfl⟩ := Int.eq_ofNat_of_zero_le ha
  obtain ⟨n, rfl⟩ := Int.eq_ofNat_of_zero_le hb
  rw [← Int.ofNat_tmod]
  show Nat.gcd n (m % n) = Nat.gcd m n
  rw [Nat.gcd_comm n, ← Nat.gcd_rec, Nat.gcd_comm]
def lowN (a b : Int) : Int := a / (Int.gcd a b : Int)
def lowD (a b : Int) : Int := b / (Int.gcd a b : Int)
theorem gpos {a b : Int} (hb : 0 < b) : 0 < (Int.gcd a b : Int) := by
  have := Int.gcd_pos_of_ne_zero_right a (show b ≠ 0 by omega)
  omega
theorem gle {a b : Int} (hb : 0 < b) : (Int.gcd a b : Int) ≤ b := Int.le_of_dvd hb (Int.gcd_dvd_right a b)
theorem tdiv_gcd_l (a b : Int) : a.tdiv (Int.gcd a b) = lowN a b := by
  unfold lowN
  exact (Int.tdiv_eq_ediv_of_dvd (Int.gcd_dvd_left a b))
theorem tdiv_gcd_r (a b : Int) : b.tdiv (Int.gcd a b) = lowD a b := by
  unfold lowD
  exact (Int.tdiv_eq_ediv_of_dvd (Int.gcd_dvd_right a b))
theorem low_range {a b M : Int} (hb : 0 < b) (ha : -M ≤ a ∧ a ≤ M) : -M ≤ lowN a b ∧ lowN a b ≤ M := by
  unfold lowN
  have g := gpos (a := a) hb
  have hM : 0 ≤ M := by omega
  have e := Int.ediv_mul_cancel (Int.gcd_dvd_left a b)
  constructor
  · apply Int.le_ediv_of_mul_le g
    have : -M * (Int.gcd a b : Int) ≤ -M * 1 := Int.mul_le_mul_of_nonpos_left (by omega) (by omega)
    omega
  · rcases Int.le_total 0 a with h | h
    · have := Int.ediv_le_self (Int.gcd a b : Int) h
      omega
    · have := Int.ediv_le_ediv g h
      rw [Int.zero_ediv] at this
      omega
theorem lowD_range {a b : Int} (hb : 0 < b) : 1 ≤ lowD a b ∧ lowD a b ≤ b := by
  unfold lowD
  have g := gpos (a := a) hb
  constructor
  · apply Int.le_ediv_of_mul_le g
    have := gle (a := a) hb
    omega
  · exact Int.ediv_le_self _ (by omega)
theorem bms {a b A B : Int} (ha : -A ≤ a ∧ a ≤ A) (hb : 0 ≤ b ∧ b ≤ B) : -(A * B) ≤ a * b ∧ a * b ≤ A * B := by
  have hA : 0 ≤ A := by omega
  rcases Int.le_total 0 a with h | h
  · have := bm ⟨h, ha.2⟩ hb
    have := Int.mul_nonneg hA (Int.le_trans hb.1 hb.2)
    omega
  · have := bm (a := -a) (A := A) ⟨by omega, by omega⟩ hb
    have e : -a * b = -(a * b) := Int.neg_mul a b
    omega
theorem low_scale (a b c : Int) (hc : 0 < c) : lowN (a * c) (b * c) = lowN a b ∧ lowD (a * c) (b * c) = lowD a b := by
  have e : (Int.gcd (a * c) (b * c) : Int) = (Int.gcd a b : Int) * c := by
    rw [Int.gcd_mul_right]
    have : (c.natAbs : Int) = c := by omega
    rw [Int.natCast_mul, this]
  unfold lowN lowD
  rw [e]
  exact ⟨Int.mul_ediv_mul_of_pos_left a _ hc, Int.mul_ediv_mul_of_pos_left b _ hc⟩
theorem w64b {x B : Int} (h : 0 ≤ x ∧ x ≤ B) (hB : B ≤ 9223372036854775807) : wrap64 x = x := w64 ⟨Int.le_trans (by decide) h.1, Int.le_trans h.2 hB⟩
theorem ad {x y A B : Int} (hx : 0 ≤ x ∧ x ≤ A) (hy : 0 ≤ y ∧ y ≤ B) : 0 ≤ x + y ∧ x + y ≤ A + B := ⟨Int.add_nonneg hx.1 hy.1, Int.add_le_add hx.2 hy.2⟩
theorem spec_l1Most_eq (a b : Int) : spec_l1Most.f a b = some (if a > b then a else b) := by
  unfold spec_l1Most.f
  split <;> rfl
theorem spec_l1In_eq (a b c : Int) : spec_l1In.f a b c = some (decide (b ≤ a ∧ a ≤ c)) := by
  unfold spec_l1In.f
  by_cases h : b ≤ a <;> simp [h]
/-- what a chase is -/
def isCh (a l r d : Int) : Prop := (1 ≤ a ∧ a ≤ 1000) ∧ (0 ≤ l ∧ l ≤ 20) ∧ (0 ≤ r ∧ r ≤ 20) ∧ 0 < l + r ∧ l < d ∧ r < d ∧ d ≤ 20
theorem spec_doGood_no (a l r d : Int) (wd : -9223372036854775808 ≤ d ∧ d ≤ 9223372036854775807) (h : ¬ isCh a l r d) : spec_doGood.f a l r d = some false := by
  unfold isCh at h
  simp only [spec_doGood.f, spec_l1In_eq, spec_l1Most_eq, Option.bind_some]
  by_cases h1 : 1 ≤ a ∧ a ≤ 1000
  · by_cases h2 : 0 ≤ l ∧ l ≤ 20
    · by_cases h3 : 0 ≤ r ∧ r ≤ 20
      · simp only [h1, h2, h3, and_self, decide_true, if_true]
        rw [w64 (by omega)]
        by_cases h4 : l + r > 0
        · rw [if_pos h4, w64 (by split <;> omega)]
          simp only [Option.some.injEq, decide_eq_false_iff_not]
          split <;> omega
        · rw [if_neg h4]
      · simp [h1, h2, h3]
    · simp [h1, h2]
  · simp [h1]
theorem spec_doGood_yes (a l r d : Int) (h : isCh a l r d) : spec_doGood.f a l r d = some true := by
  unfold isCh at h
  obtain ⟨h1, h2, h3, h4, h5, h6, h7⟩ := h
  simp only [spec_doGood.f, spec_l1In_eq, spec_l1Most_eq, Option.bind_some, h1, h2, h3, and_self, decide_true, if_true]
  rw [w64 (by omega), if_pos (show l + r > 0 by omega), w64 (by split <;> omega)]
  simp only [Option.some.injEq, decide_eq_true_eq]
  split <;> omega
def isTime (a l r n e : Int) : Prop := (0 ≤ n ∧ n ≤ 1000) ∧ (1 ≤ e ∧ e ≤ 100) ∧ n * (l + r) ≤ a * e
instance (a l r n e : Int) : Decidable (isTime a l r n e) := by unfold isTime; infer_instance
theorem spec_doTime_eq (a l r d n e : Int) (h : isCh a l r d) : spec_doTime.f a l r d n e = some (decide (isTime a l r n e)) := by
  unfold isCh at h
  unfold isTime
  simp only [spec_doTime.f, spec_l1In_eq, Option.bind_some]
  by_cases h1 : 0 ≤ n ∧ n ≤ 1000
  · by_cases h2 : 1 ≤ e ∧ e ≤ 100
    · have p1 := bm (A := 1000) (B := 40) (a := n) (b := l + r) (by omega) (by omega)
      have p2 := bm (A := 1000) (B := 100) (a := a) (b := e) (by omega) (by omega)
      rw [w64 (x := l + r) (by omega), w64 (x := n * (l + r)) (by omega), w64 (x := a * e) (by omega)]
      simp [h1, h2]
    · simp [h1, h2]
  · simp [h1]
theorem spec_l1Abs_eq (a : Int) (h : -9223372036854775807 ≤ a ∧ a ≤ 9223372036854775807) : spec_l1Abs.f a = some (Int.natAbs a : Int) := by
  unfold spec_l1Abs.f
  rw [w64 (by omega), spec_l1Most_eq]
  simp only [Option.bind_some, Option.some.injEq]
  split <;> omega
theorem spec_meLow_l0 (a0 b0 : Int) (h0 : 0 < b0) (ha0 : -9223372036854775807 ≤ a0 ∧ a0 ≤ 9223372036854775807) (hb0 : b0 ≤ 9223372036854775807) (n : Nat) :
    ∀ (k : Nat) (a b : Int), 0 ≤ a → 0 ≤ b → b ≤ n → n < k → Int.gcd a b = Int.gcd a0 b0 → spec_meLow.l0 k a0 b0 a b = some (lowN a0 b0, lowD a0 b0) := by
  have fin : ∀ (k : Nat) (a : Int), 0 ≤ a → Int.gcd a 0 = Int.gcd a0 b0 → spec_meLow.l0 (k + 1) a0 b0 a 0 = some (lowN a0 b0, lowD a0 b0) := by
    intro k a ha e
    have hg : a = (Int.gcd a0 b0 : Int) := by rw [Int.gcd_zero_right] at e; omega
    have gp := gpos (a := a0) h0
    have r1 := low_range (a := a0) h0 ha0
    have r2 := lowD_range (a := a0) h0
    simp only [spec_meLow.l0]
    rw [if_neg (by omega), if_neg (by omega), hg, tdiv_gcd_l, tdiv_gcd_r, w64 (by omega), w64 (by omega)]
  induction n with
  | zero =>
    intro k a b ha hb hn hk e
    obtain ⟨k, rfl⟩ : ∃ m, k = m + 1 := ⟨k - 1, by omega⟩
    obtain rfl : b = 0 := by omega
    exact fin k a ha e
  | succ n ih =>
    intro k a b ha hb hn hk e
    obtain ⟨k, rfl⟩ : ∃ m, k = m + 1 := ⟨k - 1, by omega⟩
    by_cases h : b > 0
    · simp only [spec_meLow.l0]
      rw [if_pos h, if_neg (by omega)]
      have h1 : 0 ≤ a.tmod b := Int.tmod_nonneg b ha
      have h2 : a.tmod b < b := Int.tmod_lt_of_pos a h
      exact ih k b (a.tmod b) hb h1 (by omega) (by omega) ((gcd_step a b ha hb).trans e)
    · obtain rfl : b = 0 := by omega
      exact fin k a ha e
theorem spec_meLow_eq (k : Nat) (a b : Int) (hb : 0 < b) (ha : -9223372036854775807 ≤ a ∧ a ≤ 9223372036854775807) (hbb : b ≤ 9223372036854775807) (hk : b + 1 < k) :
    spec_meLow.f k a b = some (lowN a b, lowD a b) := by
  obtain ⟨k, rfl⟩ : ∃ m, k = m + 1 := ⟨k - 1, by omega⟩
  unfold spec_meLow.f
  rw [if_neg (by omega)]
  simp only [spec_meLow.j0]
  rw [spec_l1Abs_eq a ha]
  simp only [Option.bind_some]
  exact spec_meLow_l0 a b hb ha hbb b.toNat k _ b (by omega) (by omega) (by omega) (by omega) (by rw [Int.gcd, Int.gcd, Int.natAbs_natCast])
/-- by what both go towards each other in the turn behind the turn k -/
def both (l r d : Int) (k : Nat) : Int := if k % 2 = 0 then d + r else d + l
def apO (l r d : Int) : Nat → Int
  | 0 => 1
  | k + 1 => apO l r d k * both l r d k
def apA (a l r d : Int) : Nat → Int
  | 0 => a
  | k + 1 => apA a l r d k * (both l r d k - l - r)
def apT (a l r d : Int) : Nat → Int
  | 0 => 0
  | k + 1 => apT a l r d k * both l r d k + apA a l r d k
def apP (a l r d : Int) : Nat → Int
  | 0 => 0
  | k + 1 => apP a l r d k * both l r d k + (if k % 2 = 0 then d else -d) * apA a l r d k
def apQ (a l r d : Int) : Nat → Int
  | 0 => 0
  | k + 1 => apQ a l r d k * both l r d k + (if k % 2 = 0 then apA a l r d k else 0)
theorem both_range {a l r d : Int} (h : isCh a l r d) (k : Nat) : 1 ≤ both l r d k ∧ both l r d k ≤ 40 ∧ 1 ≤ both l r d k - l - r ∧ both l r d k - l - r ≤ 20 := by
  unfold isCh at h
  unfold both
  split <;> omega
theorem apO_pos {a l r d : Int} (h : isCh a l r d) (k : Nat) : 1 ≤ apO l r d k := by
  induction k with
  | zero => exact Int.le_refl 1
  | succ k ih =>
    have b := both_range h k
    simp only [apO]
    have := Int.mul_le_mul ih b.1 (by omega) (by omega)
    omega
theorem apO_step {a l r d : Int} (h : isCh a l r d) (k : Nat) (N : Int) (hN : apO l r d k ≤ N) : apO l r d (k + 1) ≤ N * 40 := by
  have b := both_range h k
  have p := apO_pos h k
  simp only [apO]
  exact Int.mul_le_mul hN b.2.1 (by omega) (by omega)
theorem apO_le {a l r d : Int} (h : isCh a l r d) : apO l r d 0 ≤ 1 ∧ apO l r d 1 ≤ 40 ∧ apO l r d 2 ≤ 1600 ∧ apO l r d 3 ≤ 64000 ∧ apO l r d 4 ≤ 2560000 ∧ apO l r d 5 ≤ 102400000 ∧ apO l r d 6 ≤ 4096000000 ∧ apO l r d 7 ≤ 163840000000 := by
  have h0 : apO l r d 0 ≤ 1 := Int.le_refl 1
  have h1 := apO_step h 0 _ h0
  have h2 := apO_step h 1 _ h1
  have h3 := apO_step h 2 _ h2
  have h4 := apO_step h 3 _ h3
  have h5 := apO_step h 4 _ h4
  have h6 := apO_step h 5 _ h5
  have h7 := apO_step h 6 _ h6
  exact ⟨h0, h1, h2, h3, h4, h5, h6, h7⟩
theorem apO_le7 {a l r d : Int} (h : isCh a l r d) (k : Nat) (hk : k ≤ 7) : apO l r d k ≤ 163840000000 := by
  have q := apO_le h
  obtain rfl | rfl | rfl | rfl | rfl | rfl | rfl | rfl : k = 0 ∨ k = 1 ∨ k = 2 ∨ k = 3 ∨ k = 4 ∨ k = 5 ∨ k = 6 ∨ k = 7 := by omega
  all_goals omega
theorem apA_pos {a l r d : Int} (h : isCh a l r d) (k : Nat) : 1 ≤ apA a l r d k := by
  induction k with
  | zero =>
    unfold isCh at h
    exact h.1.1
  | succ k ih =>
    have b := both_range h k
    simp only [apA]
    have := Int.mul_le_mul ih b.2.2.1 (by omega) (by omega)
    omega
/-- what is left and what is gone are the whole -/
theorem apT_inv {a l r d : Int} (k : Nat) : (l + r) * apT a l r d k + apA a l r d k = a * apO l r d k := by
  induction k with
  | zero => simp [apT, apA, apO]
  | succ k ih =>
    simp only [apT, apA, apO]
    have e : (l + r) * (apT a l r d k * both l r d k + apA a l r d k) + apA a l r d k * (both l r d k - l - r) = ((l + r) * apT a l r d k + apA a l r d k) * both l r d k := by grind
    rw [e, ih]
    grind
theorem apT_nonneg {a l r d : Int} (h : isCh a l r d) (k : Nat) : 0 ≤ apT a l r d k := by
  induction k with
  | zero => exact Int.le_refl 0
  | succ k ih =>
    have b := both_range h k
    have p := apA_pos h k
    simp only [apT]
    have := Int.mul_nonneg ih (show 0 ≤ both l r d k by omega)
    omega
theorem aO_le {a l r d : Int} (h : isCh a l r d) (k : Nat) : a * apO l r d k ≤ 1000 * apO l r d k := by
  have p := apO_pos h k
  unfold isCh at h
  exact Int.mul_le_mul_of_nonneg_right (by omega) (by omega)
theorem apA_le {a l r d : Int} (h : isCh a l r d) (k : Nat) : apA a l r d k ≤ 1000 * apO l r d k := by
  have i := apT_inv (a := a) (l := l) (r := r) (d := d) k
  have t := apT_nonneg h k
  have q := aO_le h k
  unfold isCh at h
  have := Int.mul_nonneg (show 0 ≤ l + r by omega) t
  omega
theorem lrT_le {a l r d : Int} (h : isCh a l r d) (k : Nat) : (l + r) * apT a l r d k ≤ 1000 * apO l r d k := by
  have i := apT_inv (a := a) (l := l) (r := r) (d := d) k
  have p := apA_pos h k
  have q := aO_le h k
  omega
theorem apT_le {a l r d : Int} (h : isCh a l r d) (k : Nat) : apT a l r d k ≤ 1000 * apO l r d k := by
  have q := lrT_le h k
  have t := apT_nonneg h k
  unfold isCh at h
  have := Int.mul_le_mul_of_nonneg_right (show 1 ≤ l + r by omega) t
  omega
theorem apP_eq {a l r d : Int} (k : Nat) : apP a l r d k = if k % 2 = 0 then l * apT a l r d k else a * apO l r d k - r * apT a l r d k := by
  induction k with
  | zero => simp [apP, apT]
  | succ k ih =>
    have i := apT_inv (a := a) (l := l) (r := r) (d := d) k
    simp only [apP, apT, apO]
    rw [ih]
    by_cases e : k % 2 = 0
    · have e1 : ¬ (k + 1) % 2 = 0 := by omega
      have eb : both l r d k = d + r := by unfold both; rw [if_pos e]
      rw [if_pos e, if_pos e, if_neg e1, eb]
      grind
    · have e1 : (k + 1) % 2 = 0 := by omega
      have eb : both l r d k = d + l := by unfold both; rw [if_neg e]
      rw [if_neg e, if_neg e, if_pos e1, eb]
      grind
theorem apP_range {a l r d : Int} (h : isCh a l r d) (k : Nat) : 0 ≤ apP a l r d k ∧ apP a l r d k ≤ 1000 * apO l r d k := by
  have i := apT_inv (a := a) (l := l) (r := r) (d := d) k
  have t := apT_nonneg h k
  have p := apA_pos h k
  have q := aO_le h k
  rw [apP_eq]
  unfold isCh at h
  have m1 := Int.mul_nonneg (show 0 ≤ l by omega) t
  have m2 := Int.mul_nonneg (show 0 ≤ r by omega) t
  have e : (l + r) * apT a l r d k = l * apT a l r d k + r * apT a l r d k := Int.add_mul _ _ _
  split <;> omega
theorem apQ_range {a l r d : Int} (h : isCh a l r d) (k : Nat) : 0 ≤ apQ a l r d k ∧ apQ a l r d k ≤ apT a l r d k := by
  induction k with
  | zero => exact ⟨Int.le_refl 0, Int.le_refl 0⟩
  | succ k ih =>
    have b := both_range h k
    have p := apA_pos h k
    simp only [apQ, apT]
    have m1 := Int.mul_nonneg ih.1 (show 0 ≤ both l r d k by omega)
    have m2 := Int.mul_le_mul_of_nonneg_right ih.2 (show 0 ≤ both l r d k by omega)
    split <;> omega
theorem low_eq {a b c d : Int} (hb : 0 < b) (hd : 0 < d) (h : a * d = c * b) : lowN a b = lowN c d ∧ lowD a b = lowD c d := by
  have s1 := low_scale a b d hd
  have s2 := low_scale c d b hb
  rw [← s1.1, ← s1.2, ← s2.1, ← s2.2, h, Int.mul_comm b d]
  exact ⟨rfl, rfl⟩
theorem low_cross (a b : Int) : lowN a b * b = a * lowD a b := by
  have e1 := Int.ediv_mul_cancel (Int.gcd_dvd_left a b)
  have e2 := Int.ediv_mul_cancel (Int.gcd_dvd_right a b)
  unfold lowN lowD
  generalize a / (Int.gcd a b : Int) = u at *
  generalize b / (Int.gcd a b : Int) = v at *
  generalize (Int.gcd a b : Int) = g at *
  have : u * (v * g) = u * g * v := by rw [Int.mul_assoc, Int.mul_comm v g]
  rw [e1, e2] at this
  exact this
theorem low_nonneg {a b : Int} (ha : 0 ≤ a) (hb : 0 < b) : 0 ≤ lowN a b ∧ lowN a b ≤ a := by
  unfold lowN
  exact ⟨Int.ediv_nonneg ha (by omega), Int.ediv_le_self _ ha⟩
theorem tm_yes (i : Nat) (e : i % 2 = 0) : Int.tmod (i : Int) 2 = 0 := by
  rw [Int.tmod_eq_emod_of_nonneg (Int.natCast_nonneg i)]
  omega
theorem tm_no (i : Nat) (e : ¬ i % 2 = 0) : ¬ Int.tmod (i : Int) 2 = 0 := by
  rw [Int.tmod_eq_emod_of_nonneg (Int.natCast_nonneg i)]
  omega
theorem par_up (i : Nat) (e : i % 2 = 0) : ¬ (i + 1) % 2 = 0 := by omega
theorem par_down (i : Nat) (e : ¬ i % 2 = 0) : (i + 1) % 2 = 0 := by omega
def stAt (a l r d : Int) (k : Nat) : S66 := ⟨apT a l r d k, apP a l r d k, apA a l r d k, d * apQ a l r d k, apO l r d k⟩
theorem step_wraps {T P A Q O b s d : Int} (hT : 0 ≤ T ∧ T ≤ 163840000000000) (hP : 0 ≤ P ∧ P ≤ 163840000000000) (hA : 0 ≤ A ∧ A ≤ 163840000000000) (hQ : 0 ≤ Q ∧ Q ≤ 163840000000000)
    (hO : 0 ≤ O ∧ O ≤ 163840000000) (hb : 0 ≤ b ∧ b ≤ 40) (hs : 0 ≤ s ∧ s ≤ 20) (hd : 0 ≤ d ∧ d ≤ 20) :
    wrap64 (T * b) = T * b ∧ wrap64 (T * b + A) = T * b + A ∧ wrap64 (P * b) = P * b ∧ wrap64 (d * A) = d * A ∧ wrap64 (P * b + d * A) = P * b + d * A ∧ wrap64 (-d * A) = -d * A ∧ wrap64 (P * b + -d * A) = P * b + -d * A ∧
    wrap64 (A * s) = A * s ∧ wrap64 (d * Q * b) = d * Q * b ∧ wrap64 (d * Q * b + d * A) = d * Q * b + d * A ∧ wrap64 (d * Q * b + 0 * A) = d * Q * b + 0 * A ∧ wrap64 (O * b) = O * b ∧ wrap64 (0 * A) = 0 * A := by
  have pb := bm hP hb
  have da := bm hd hA
  have dq := bm (bm hd hQ) hb
  have en : -d * A = -(d * A) := Int.neg_mul _ _
  refine ⟨w64b (bm hT hb) (by decide), w64b (ad (bm hT hb) hA) (by decide), w64b pb (by decide), w64b da (by decide), w64b (ad pb da) (by decide), ?_, ?_, w64b (bm hA hs) (by decide), w64b dq (by decide), w64b (ad dq da) (by decide), ?_, w64b (bm hO hb) (by decide), ?_⟩
  · rw [en]
    exact w64 ⟨by omega, by omega⟩
  · rw [en]
    exact w64 ⟨by omega, by omega⟩
  · rw [Int.zero_mul, Int.add_zero]
    exact w64b dq (by decide)
  · rw [Int.zero_mul]
    exact w64 ⟨by decide, by decide⟩
theorem st_ranges {a l r d : Int} (h : isCh a l r d) (i : Nat) (hi : i ≤ 7) : (0 ≤ apT a l r d i ∧ apT a l r d i ≤ 163840000000000) ∧ (0 ≤ apP a l r d i ∧ apP a l r d i ≤ 163840000000000) ∧ (0 ≤ apA a l r d i ∧ apA a l r d i ≤ 163840000000000) ∧
    (0 ≤ apQ a l r d i ∧ apQ a l r d i ≤ 163840000000000) ∧ (0 ≤ apO l r d i ∧ apO l r d i ≤ 163840000000) := by
  have o1 := apO_pos h i
  have o2 := apO_le7 h i hi
  have t1 := apT_nonneg h i
  have t2 := apT_le h i
  have p1 := apP_range h i
  have q1 := apQ_range h i
  have a1 := apA_pos h i
  have a2 := apA_le h i
  generalize apT a l r d i = T at *
  generalize apP a l r d i = P at *
  generalize apA a l r d i = A at *
  generalize apQ a l r d i = Q at *
  generalize apO l r d i = O at *
  clear h
  refine ⟨⟨?_, ?_⟩, ⟨?_, ?_⟩, ⟨?_, ?_⟩, ⟨?_, ?_⟩, ⟨?_, ?_⟩⟩ <;> omega
theorem spec_doRun_l0 (a l r d : Int) (h : isCh a l r d) (n : Nat) (hn : n ≤ 7) (q : Nat) : ∀ (k i : Nat), i + q = n → q < k →
    spec_doRun.l0 k (n : Int) ((List.range (i + 1)).map (stAt a l r d)) ((i + 1 : Nat) : Int) a l r d (apT a l r d i) (apP a l r d i) (apA a l r d i) (d * apQ a l r d i) (apO l r d i) = some ((List.range (n + 1)).map (stAt a l r d)) := by
  have g := h
  unfold isCh at g
  have hd : 0 ≤ d ∧ d ≤ 20 := by omega
  have w1 : wrap64 (d + r) = d + r := w64 (by omega)
  have w2 : wrap64 (d + r - l) = d + r - l := w64 (by omega)
  have w3 : wrap64 (d + r - l - r) = d + r - l - r := w64 (by omega)
  have w4 : wrap64 (d + l) = d + l := w64 (by omega)
  have w5 : wrap64 (d + l - l) = d + l - l := w64 (by omega)
  have w6 : wrap64 (d + l - l - r) = d + l - l - r := w64 (by omega)
  have w7 : wrap64 (-d) = -d := w64 (by omega)
  have z0 : (if (0 : Int) > d then (0 : Int) else d) = d := if_neg (by omega)
  have z1 : (if (0 : Int) > -d then (0 : Int) else -d) = 0 := if_pos (by omega)
  have r1 : 0 ≤ d + r ∧ d + r ≤ 40 := by omega
  have r2 : 0 ≤ d + l ∧ d + l ≤ 40 := by omega
  have r3 : 0 ≤ d + r - l - r ∧ d + r - l - r ≤ 20 := by omega
  have r4 : 0 ≤ d + l - l - r ∧ d + l - l - r ≤ 20 := by omega
  clear g
  induction q with
  | zero =>
    intro k i hi hk
    obtain ⟨k, rfl⟩ : ∃ m, k = m + 1 := ⟨k - 1, by omega⟩
    obtain rfl : i = n := by omega
    simp only [spec_doRun.l0]
    rw [if_neg (by omega)]
  | succ q ih =>
    intro k i hi hk
    obtain ⟨k, rfl⟩ : ∃ m, k = m + 1 := ⟨k - 1, by omega⟩
    have next := ih k (i + 1) (by omega) (by omega)
    obtain ⟨hT, hP, hA, hQ, hO⟩ := st_ranges h i (by omega)
    have hlen : ((List.range (i + 1)).map (stAt a l r d)).length < 3518437208883 := by
      simp only [List.length_map, List.length_range]
      omega
    have hx : wrap64 (((i + 1 : Nat) : Int) + 1) = ((i + 1 + 1 : Nat) : Int) := by
      rw [w64 (by omega)]
      rfl
    have hle : ((i + 1 : Nat) : Int) ≤ (n : Int) := by omega
    have hcons : (List.range (i + 1)).map (stAt a l r d) ++ [stAt a l r d (i + 1)] = (List.range (i + 1 + 1)).map (stAt a l r d) := by
      rw [List.range_succ (n := i + 1), List.map_append]
      rfl
    rw [← hcons] at next
    simp only [spec_doRun.l0]
    rw [if_pos hle, hx]
    by_cases e : i % 2 = 0
    · have eb : both l r d i = d + r := by unfold both; rw [if_pos e]
      have tm := tm_no (i + 1) (par_up i e)
      obtain ⟨x1, x2, x3, x4, x5, x6, x7, x8, x9, x10, x11, x12, x13⟩ := step_wraps hT hP hA hQ hO r1 r3 hd
      have eT : apT a l r d (i + 1) = apT a l r d i * (d + r) + apA a l r d i := by rw [← eb]; rfl
      have eP : apP a l r d (i + 1) = apP a l r d i * (d + r) + d * apA a l r d i := by
        rw [← eb]
        show _ + (if i % 2 = 0 then d else -d) * _ = _
        rw [if_pos e]
      have eA : apA a l r d (i + 1) = apA a l r d i * (d + r - l - r) := by rw [← eb]; rfl
      have eO : apO l r d (i + 1) = apO l r d i * (d + r) := by rw [← eb]; rfl
      have eR : d * apQ a l r d (i + 1) = d * apQ a l r d i * (d + r) + d * apA a l r d i := by
        rw [← eb]
        show d * (_ + (if i % 2 = 0 then apA a l r d i else 0)) = _
        rw [if_pos e, Int.mul_add, Int.mul_assoc]
      rw [if_neg tm, spec_l1Most_eq]
      simp only [Option.bind_some]
      rw [if_pos hlen, z0, w1, w2, w3, x1, x3, x4, x9, x2, x5, x8, x10, x12, ← eT, ← eP, ← eA, ← eO, ← eR]
      exact next
    · have eb : both l r d i = d + l := by unfold both; rw [if_neg e]
      have tm := tm_yes (i + 1) (par_down i e)
      obtain ⟨x1, x2, x3, x4, x5, x6, x7, x8, x9, x10, x11, x12, x13⟩ := step_wraps hT hP hA hQ hO r2 r4 hd
      have eT : apT a l r d (i + 1) = apT a l r d i * (d + l) + apA a l r d i := by rw [← eb]; rfl
      have eP : apP a l r d (i + 1) = apP a l r d i * (d + l) + -d * apA a l r d i := by
        rw [← eb]
        show _ + (if i % 2 = 0 then d else -d) * _ = _
        rw [if_neg e]
      have eA : apA a l r d (i + 1) = apA a l r d i * (d + l - l - r) := by rw [← eb]; rfl
      have eO : apO l r d (i + 1) = apO l r d i * (d + l) := by rw [← eb]; rfl
      have eR : d * apQ a l r d (i + 1) = d * apQ a l r d i * (d + l) + 0 * apA a l r d i := by
        rw [← eb]
        show d * (_ + (if i % 2 = 0 then apA a l r d i else 0)) = _
        rw [if_neg e, Int.mul_add, Int.mul_assoc, Int.mul_zero, Int.zero_mul]
      rw [if_pos tm, w7, spec_l1Most_eq]
      simp only [Option.bind_some]
      rw [if_pos hlen, z1, w4, w5, w6, x1, x3, x6, x9, x13, x2, x7, x8, x11, x12, ← eT, ← eP, ← eA, ← eO, ← eR]
      exact next
theorem spec_doRun_eq (a l r d : Int) (h : isCh a l r d) (n : Nat) (hn : n ≤ 7) (k : Nat) (hk : 10 < k) : spec_doRun.f k a l r d (n : Int) = some ((List.range (n + 1)).map (stAt a l r d)) := by
  have := spec_doRun_l0 a l r d h n hn n k 0 (by omega) (by omega)
  unfold spec_doRun.f
  simpa [apT, apP, apA, apQ, apO, stAt] using this
theorem rd_st (a l r d : Int) (n i : Nat) (h : i ≤ n) : rd_T66 ((List.range (n + 1)).map (stAt a l r d)) (i : Int) = stAt a l r d i := by
  have : i < n + 1 := by omega
  simp [rd_T66, this]
/-- the turn behind x more is not later than n / e -/
def upT (a l r d n e : Int) (x : Nat) : Bool := decide (apT a l r d (x + 1) * e ≤ n * apO l r d (x + 1))
theorem upT_anti {a l r d : Int} (h : isCh a l r d) (n e : Int) (he : 1 ≤ e) (x : Nat) (hx : upT a l r d n e (x + 1) = true) : upT a l r d n e x = true := by
  unfold upT at hx ⊢
  rw [decide_eq_true_eq] at hx ⊢
  have b := both_range h (x + 1)
  have p := apA_pos h (x + 1)
  have q : apT a l r d (x + 1 + 1) = apT a l r d (x + 1) * both l r d (x + 1) + apA a l r d (x + 1) := rfl
  have s : apO l r d (x + 1 + 1) = apO l r d (x + 1) * both l r d (x + 1) := rfl
  rw [q, s] at hx
  generalize apT a l r d (x + 1) = T at *
  generalize apO l r d (x + 1) = O at *
  generalize apA a l r d (x + 1) = A at *
  generalize both l r d (x + 1) = B at *
  have z : 0 ≤ A * e := Int.mul_nonneg (by omega) (by omega)
  have e1 : (T * B + A) * e = T * e * B + A * e := by grind
  have e2 : n * (O * B) = n * O * B := by grind
  rw [e1, e2] at hx
  exact Int.le_of_mul_le_mul_right (show T * e * B ≤ n * O * B by omega) (by omega)
def cnt (c : Nat → Bool) : Nat → Nat → Int → Int
  | 0, _, n => n
  | d + 1, x, n => cnt c d (x + 1) (if c x = true then n + 1 else n)
def fst (c : Nat → Bool) : Nat → Nat → Nat
  | 0, x => x
  | d + 1, x => if c x = true then fst c d (x + 1) else x
theorem cnt_none (c : Nat → Bool) (d : Nat) : ∀ (x : Nat) (n : Int), (∀ y, x ≤ y → c y = false) → cnt c d x n = n := by
  induction d with
  | zero => exact fun _ _ _ => rfl
  | succ d ih =>
    intro x n h
    unfold cnt
    rw [h x (Nat.le_refl x), if_neg Bool.false_ne_true]
    exact ih (x + 1) n (fun y hy => h y (by omega))
theorem cnt_fst (c : Nat → Bool) (hc : ∀ x, c (x + 1) = true → c x = true) (d : Nat) : ∀ (x : Nat) (n : Int), cnt c d x n = n + ((fst c d x : Int) - x) := by
  induction d with
  | zero =>
    intro x n
    unfold cnt fst
    omega
  | succ d ih =>
    intro x n
    unfold cnt fst
    by_cases z : c x = true
    · rw [if_pos z, if_pos z, ih (x + 1) (n + 1)]
      omega
    · rw [if_neg z, if_neg z, cnt_none c d (x + 1) n ?_]
      · omega
      · have zz : c x = false := by
          cases hh : c x with
          | false => rfl
          | true => exact absurd hh z
        have all : ∀ m, c (x + m) = false := by
          intro m
          induction m with
          | zero => exact zz
          | succ m ihm =>
            cases hh : c (x + (m + 1)) with
            | false => rfl
            | true =>
              have := hc (x + m) hh
              rw [ihm] at this
              exact absurd this Bool.false_ne_true
        intro y hy
        have := all (y - x)
        rwa [show x + (y - x) = y by omega] at this
theorem fst_le (c : Nat → Bool) (d : Nat) : ∀ x, x ≤ fst c d x ∧ fst c d x ≤ x + d := by
  induction d with
  | zero => exact fun x => ⟨Nat.le_refl x, Nat.le_refl x⟩
  | succ d ih =>
    intro x
    unfold fst
    have := ih (x + 1)
    split <;> omega
theorem low_test (T O n e : Int) (hO : 0 < O) : lowN T O * e > n * lowD T O ↔ T * e > n * O := by
  have cc := low_cross T O
  have hb := (lowD_range (a := T) (b := O) hO).1
  generalize lowN T O = t at *
  generalize lowD T O = b at *
  have e1 : t * e * O = T * e * b := by grind
  have e2 : n * b * O = n * O * b := by grind
  constructor
  · intro z
    have := Int.mul_lt_mul_of_pos_right (show n * b < t * e from z) hO
    rw [e1, e2] at this
    exact Int.lt_of_mul_lt_mul_right this (by omega)
  · intro z
    have := Int.mul_lt_mul_of_pos_right (show n * O < T * e from z) (show 0 < b by omega)
    rw [← e1, ← e2] at this
    exact Int.lt_of_mul_lt_mul_right this (by omega)
theorem rd_drop (a l r d : Int) (i : Nat) (h : i < 7) : rd_T66 (((List.range 8).map (stAt a l r d)).drop 1) (i : Int) = stAt a l r d (i + 1) := by
  have : 1 + i < 8 := by omega
  have this2 : i + 1 < 8 := by omega
  have e : 1 + i = i + 1 := by omega
  simp [rd_T66, List.getD_eq_getElem?_getD, List.getElem?_drop, this, this2, e]
theorem before_n (a l r d n e : Int) (h : isCh a l r d) (hn : 0 ≤ n ∧ n ≤ 1000) (he : 1 ≤ e ∧ e ≤ 100) (q : Nat) : ∀ (i : Nat) (s : Int), i + q = 7 → 0 ≤ s ∧ s ≤ i →
    spec_doBefore.n n e (((List.range 8).map (stAt a l r d)).drop 1) q (i : Int) s = cnt (upT a l r d n e) q i s := by
  induction q with
  | zero => exact fun _ _ _ _ => rfl
  | succ q ih =>
    intro i s hi hs
    obtain ⟨hT, hP, hA, hQ, hO⟩ := st_ranges h (i + 1) (by omega)
    have w1 : wrap64 (apT a l r d (i + 1) * e) = apT a l r d (i + 1) * e := w64b (bm hT (show 0 ≤ e ∧ e ≤ 100 by omega)) (by decide)
    have w2 : wrap64 (n * apO l r d (i + 1)) = n * apO l r d (i + 1) := w64b (bm hn hO) (by decide)
    clear hT hP hA hQ hO
    show spec_doBefore.n n e _ q ((i : Int) + 1) (if (wrap64 ((rd_T66 _ (i : Int)).f0 * e)) ≤ (wrap64 (n * (rd_T66 _ (i : Int)).f4)) then wrap64 (s + 1) else s) = cnt _ q (i + 1) (if decide _ = true then s + 1 else s)
    rw [rd_drop a l r d i (by omega)]
    show spec_doBefore.n n e _ q ((i : Int) + 1) (if (wrap64 (apT a l r d (i + 1) * e)) ≤ (wrap64 (n * apO l r d (i + 1))) then wrap64 (s + 1) else s) = _
    rw [w1, w2, w64 (x := s + 1) (by omega)]
    by_cases z : apT a l r d (i + 1) * e ≤ n * apO l r d (i + 1)
    · rw [if_pos z, decide_eq_true z, if_pos rfl]
      exact ih (i + 1) (s + 1) (by omega) (by omega)
    · rw [if_neg z, decide_eq_false z, if_neg Bool.false_ne_true]
      exact ih (i + 1) s (by omega) (by omega)
theorem spec_doBefore_eq (a l r d n e : Int) (h : isCh a l r d) (hn : 0 ≤ n ∧ n ≤ 1000) (he : 1 ≤ e ∧ e ≤ 100) (k : Nat) (hk : 10 < k) : spec_doBefore.f k a l r d n e = some ((fst (upT a l r d n e) 7 0 : Nat) : Int) := by
  unfold spec_doBefore.f
  have e7 := spec_doRun_eq a l r d h 7 (Nat.le_refl 7) k hk
  rw [show ((7 : Nat) : Int) = 7 from rfl] at e7
  rw [e7]
  simp only [Option.bind_some]
  rw [if_pos (by simp)]
  have z := before_n a l r d n e h hn he 7 0 0 (by omega) (by omega)
  rw [cnt_fst _ (upT_anti h n e he.1)] at z
  have hl : (((List.range (7 + 1)).map (stAt a l r d)).drop 1).length = 7 := by simp
  rw [hl]
  refine congrArg some (Eq.trans z ?_)
  simp
theorem spec_l1All_l0 (lo hi : Int) (l : List Int) (hl : l.length ≤ 1000000000) (d : Nat) : ∀ (k i : Nat), i + d = l.length → d < k →
    spec_l1All.l0 k lo hi l (l.length : Int) (i : Int) = some (decide (∀ x ∈ l.drop i, lo ≤ x ∧ x ≤ hi)) := by
  induction d with
  | zero =>
    intro k i hi' hk
    obtain ⟨k, rfl⟩ : ∃ m, k = m + 1 := ⟨k - 1, by omega⟩
    simp only [spec_l1All.l0]
    rw [if_neg (by omega), List.drop_of_length_le (by omega)]
    simp
  | succ d ih =>
    intro k i hi' hk
    obtain ⟨k, rfl⟩ : ∃ m, k = m + 1 := ⟨k - 1, by omega⟩
    have hlt : i < l.length := by omega
    have er : rd l (i : Int) = l[i] := by simp [rd, hlt]
    simp only [spec_l1All.l0]
    rw [if_pos (by omega), if_pos (by omega), if_pos (by omega), spec_l1In_eq, er, List.drop_eq_getElem_cons hlt]
    simp only [Option.bind_some]
    have e1 : wrap64 ((i : Int) + 1) = ((i + 1 : Nat) : Int) := by rw [w64 (by omega)]; rfl
    rw [e1, ih k (i + 1) (by omega) (by omega)]
    have e2 : (∀ x ∈ l[i] :: l.drop (i + 1), lo ≤ x ∧ x ≤ hi) ↔ ((lo ≤ l[i] ∧ l[i] ≤ hi) ∧ ∀ x ∈ l.drop (i + 1), lo ≤ x ∧ x ≤ hi) := List.forall_mem_cons
    by_cases h : lo ≤ l[i] ∧ l[i] ≤ hi
    · simp only [h, and_self, decide_true, if_true]
      exact congrArg some (decide_eq_decide.mpr (e2.trans ⟨fun z => z.2, fun z => ⟨h, z⟩⟩).symm)
    · simp only [h, decide_false, Bool.false_eq_true, if_false]
      exact congrArg some (decide_eq_false (fun z => h (e2.1 z).1)).symm
theorem spec_l1All_eq (k : Nat) (lo hi : Int) (l : List Int) (hl : l.length ≤ 1000000000) (hk : l.length < k) : spec_l1All.f k l lo hi = some (decide (∀ x ∈ l, lo ≤ x ∧ x ≤ hi)) := by
  unfold spec_l1All.f
  have := spec_l1All_l0 lo hi l hl l.length k 0 (by omega) hk
  simpa using this
def isLeaps (a b c d : Int) : Prop := (1 ≤ a ∧ a ≤ 20) ∧ (1 ≤ b ∧ b ≤ 20) ∧ (1 ≤ c ∧ c ≤ 20) ∧ (1 ≤ d ∧ d ≤ 20)
instance (a b c d : Int) : Decidable (isLeaps a b c d) := by unfold isLeaps; infer_instance
theorem spec_doLeaps_eq (k : Nat) (hk : 4 < k) (a b c d : Int) : spec_doLeaps.f k a b c d = some (decide (isLeaps a b c d)) := by
  unfold spec_doLeaps.f
  rw [spec_l1All_eq k 1 20 _ (by simp) (by simpa using hk)]
  exact congrArg some (decide_eq_decide.mpr (by unfold isLeaps; simp))
/-- a list of bytes as a text -/
def tx (l : List UInt8) : ByteArray := ⟨l.toArray⟩
theorem tx_size (l : List UInt8) : (tx l).size = l.length := by simp [tx, ByteArray.size]
theorem tx_data (l : List UInt8) : (tx l).data.toList = l := by simp [tx]
theorem tx_append (a b : List UInt8) : tx a ++ tx b = tx (a ++ b) := by
  apply ByteArray.ext
  simp [tx, ByteArray.data_append]
theorem tx_of (s : ByteArray) : tx s.data.toList = s := by
  apply ByteArray.ext
  simp [tx]
theorem dec_len (n : Nat) : (Go.Lib.decDigits n).length ≤ n + 1 := by
  induction n using Nat.strongRecOn with
  | _ n ih =>
    rw [Go.Lib.decDigits]
    split
    · simp
    · have := ih (n / 10) (by omega)
      simp only [List.length_append, List.length_cons, List.length_nil]
      omega
theorem itoa_nat (n : Nat) : Go.Lib.itoa (n : Int) = Go.Lib.decDigits n := by
  unfold Go.Lib.itoa
  rw [if_neg (by omega), Int.toNat_natCast]
theorem itoa_len (x : Int) (h : 0 ≤ x) : ((Go.Lib.itoa x).length : Int) ≤ x + 1 := by
  obtain ⟨n, rfl⟩ := Int.eq_ofNat_of_zero_le h
  rw [itoa_nat]
  have := dec_len n
  omega
theorem digit_text (d : Nat) (h : d < 10) : strOfNums [wrap64 (48 + (d : Int)) % 256] = tx [UInt8.ofNat (48 + d)] := by
  rw [w64 (by omega), Int.emod_eq_of_lt (by omega) (by omega)]
  have : (48 + (d : Int)).toNat = 48 + d := by omega
  unfold strOfNums tx
  rw [List.map_cons, List.map_nil, this]
theorem spec_l1Num_nat (n : Nat) : ∀ k : Nat, n ≤ 1000000 → n < k → spec_l1Num.f k (n : Int) = some (tx (Go.Lib.decDigits n)) := by
  induction n using Nat.strongRecOn with
  | _ n ih =>
    intro k hn hk
    obtain ⟨k, rfl⟩ : ∃ m, k = m + 1 := ⟨k - 1, by omega⟩
    rw [Go.Lib.decDigits]
    simp only [spec_l1Num.f]
    by_cases h : n < 10
    · rw [if_pos (by omega), dif_pos h, digit_text n h]
    · have e1 : wrap64 (Int.tdiv (n : Int) 10) = ((n / 10 : Nat) : Int) := by
        rw [Int.tdiv_eq_ediv_of_nonneg (by omega), w64 (by omega)]
        rfl
      have e2 : Int.tmod (n : Int) 10 = ((n % 10 : Nat) : Int) := by
        rw [Int.tmod_eq_emod_of_nonneg (by omega)]
        rfl
      have hl := dec_len (n / 10)
      rw [if_neg (by omega), dif_neg h, e1, ih (n / 10) (by omega) k (by omega) (by omega), e2]
      simp only [Option.bind_some]
      rw [digit_text (n % 10) (by omega), if_pos (by rw [tx_size, tx_size]; simp only [List.length_cons, List.length_nil]; omega), tx_append]
theorem spec_l1Num_eq (x : Int) (h : 0 ≤ x ∧ x ≤ 1000000) (k : Nat) (hk : 1000000 < k) : spec_l1Num.f k x = some (tx (Go.Lib.itoa x)) := by
  obtain ⟨n, rfl⟩ := Int.eq_ofNat_of_zero_le h.1
  rw [itoa_nat]
  exact spec_l1Num_nat n k (by omega) (by omega)
theorem lit_tx (b : UInt8) : (⟨#[b]⟩ : ByteArray) = tx [b] := rfl
theorem spec_doText_eq (a l r d : Int) (h : isCh a l r d) (k : Nat) (hk : 1000000 < k) : spec_doText.f k a l r d = some (tx (Go.Lib.itoa a ++ [45] ++ Go.Lib.itoa l ++ [45] ++ Go.Lib.itoa r ++ [45] ++ Go.Lib.itoa d)) := by
  unfold isCh at h
  have l1 := itoa_len a (by omega)
  have l2 := itoa_len l (by omega)
  have l3 := itoa_len r (by omega)
  have l4 := itoa_len d (by omega)
  unfold spec_doText.f
  rw [spec_l1Num_eq a (by omega) k hk, spec_l1Num_eq l (by omega) k hk, spec_l1Num_eq r (by omega) k hk, spec_l1Num_eq d (by omega) k hk]
  simp only [Option.bind_some, lit_tx, tx_append, tx_size, List.length_append, List.length_cons, List.length_nil]
  rw [if_pos (by omega), if_pos (by omega), if_pos (by omega), if_pos (by omega), if_pos (by omega), if_pos (by omega)]
theorem hd_app (l r : List UInt8) (h : l ≠ []) : (l ++ r).head? = l.head? := by
  cases l with
  | nil => exact absurd rfl h
  | cons a l => rfl
theorem snoc_ind {P : List UInt8 → Prop} (h0 : P []) (h1 : ∀ l c, P l → P (l ++ [c])) : ∀ l, P l := by
  have key : ∀ l : List UInt8, P l.reverse := by
    intro l
    induction l with
    | nil => exact h0
    | cons c l ih =>
      rw [List.reverse_cons]
      exact h1 _ _ ih
  intro l
  have := key l.reverse
  rwa [List.reverse_reverse] at this
/-- a text cut at a byte -/
def sp (b : UInt8) : List UInt8 → List (List UInt8)
  | [] => [[]]
  | c :: r => if c = b then [] :: sp b r else match sp b r with
    | [] => [[c]]
    | x :: xs => (c :: x) :: xs
def spA (b : UInt8) (acc : List UInt8) : List UInt8 → List (List UInt8)
  | [] => [acc]
  | c :: r => if c = b then acc :: spA b [] r else spA b (acc ++ [c]) r
theorem sp_ne (b : UInt8) (l : List UInt8) : ∃ x xs, sp b l = x :: xs := by
  cases l with
  | nil => exact ⟨[], [], rfl⟩
  | cons c r =>
    unfold sp
    split
    · exact ⟨[], _, rfl⟩
    · cases sp b r with
      | nil => exact ⟨[c], [], rfl⟩
      | cons x xs => exact ⟨c :: x, xs, rfl⟩
theorem spA_eq (b : UInt8) (l : List UInt8) : ∀ acc x xs, sp b l = x :: xs → spA b acc l = (acc ++ x) :: xs := by
  induction l with
  | nil =>
    intro acc x xs h
    unfold sp at h
    obtain ⟨rfl, rfl⟩ := List.cons.inj h
    simp [spA]
  | cons c r ih =>
    intro acc x xs h
    obtain ⟨y, ys, hy⟩ := sp_ne b r
    unfold sp at h
    unfold spA
    by_cases z : c = b
    · rw [if_pos z] at h ⊢
      obtain ⟨rfl, rfl⟩ := List.cons.inj h
      rw [ih [] y ys hy, hy, List.append_nil, List.nil_append]
    · rw [if_neg z, hy] at h
      rw [if_neg z]
      obtain ⟨rfl, rfl⟩ := List.cons.inj h
      rw [ih (acc ++ [c]) y ys hy, List.append_assoc]
      rfl
theorem spA_nil (b : UInt8) (l : List UInt8) : spA b [] l = sp b l := by
  obtain ⟨x, xs, h⟩ := sp_ne b l
  rw [spA_eq b l [] x xs h, h, List.nil_append]
/-- the pieces, joined again, are the text -/
theorem join_sp (b : UInt8) (l : List UInt8) : Go.Lib.join (sp b l) [b] = l := by
  induction l with
  | nil => rfl
  | cons c r ih =>
    obtain ⟨x, xs, h⟩ := sp_ne b r
    unfold sp
    rw [h] at ih ⊢
    rw [Go.Lib.join_cons] at ih
    by_cases z : c = b
    · rw [if_pos z, Go.Lib.join_cons]
      unfold Go.Lib.joinTail at ih ⊢
      rw [List.map_cons, List.flatten_cons, z, List.nil_append]
      show [b] ++ x ++ _ = _
      rw [List.append_assoc, ih]
      rfl
    · rw [if_neg z]
      show Go.Lib.join ((c :: x) :: xs) [b] = _
      rw [Go.Lib.join_cons, List.cons_append, ih]
theorem sp_len (b : UInt8) (l : List UInt8) : (sp b l).length ≤ l.length + 1 := by
  induction l with
  | nil => exact Nat.le_refl _
  | cons c r ih =>
    obtain ⟨x, xs, h⟩ := sp_ne b r
    unfold sp
    rw [h] at ih ⊢
    split <;> simp only [List.length_cons] at * <;> omega
theorem sp_small (b : UInt8) (l : List UInt8) : ∀ x ∈ sp b l, x.length ≤ l.length := by
  induction l with
  | nil => intro x hx; simp [sp] at hx; subst hx; exact Nat.le_refl _
  | cons c r ih =>
    obtain ⟨y, ys, h⟩ := sp_ne b r
    intro x hx
    unfold sp at hx
    rw [h] at ih hx
    by_cases z : c = b
    · rw [if_pos z] at hx
      rcases List.mem_cons.mp hx with rfl | hx
      · simp
      · have := ih x hx
        simp only [List.length_cons]
        omega
    · rw [if_neg z] at hx
      rcases List.mem_cons.mp hx with rfl | hx
      · have := ih y List.mem_cons_self
        simp only [List.length_cons]
        omega
      · have := ih x (List.mem_cons_of_mem _ hx)
        simp only [List.length_cons]
        omega
theorem splitK_sp (b : UInt8) (l : List UInt8) : Go.Lib.splitK [b] 0 (Go.Lib.count l [b]) l = sp b l := by
  induction l with
  | nil =>
    rw [Go.Lib.count_miss (by simp [Go.Lib.index])]
    rfl
  | cons c r ih =>
    obtain ⟨x, xs, h⟩ := sp_ne b r
    by_cases z : c = b
    · subst z
      have hix : Go.Lib.index (c :: r) [c] = 0 := by rw [Go.Lib.index]; simp [List.isPrefixOf]
      rw [Go.Lib.count_cons_eq, Nat.add_comm 1]
      unfold Go.Lib.splitK sp
      rw [hix, if_pos rfl, ← ih]
      rfl
    · have hp : ([b] : List UInt8).isPrefixOf (c :: r) = false := by simp [List.isPrefixOf, Ne.symm z]
      have hix : Go.Lib.index (c :: r) [b] = if Go.Lib.index r [b] == -1 then -1 else Go.Lib.index r [b] + 1 := by rw [Go.Lib.index, hp]; simp
      rw [Go.Lib.count_cons_ne c b r z]
      unfold sp
      rw [if_neg z, ← ih]
      by_cases hm : Go.Lib.index r [b] = -1
      · rw [Go.Lib.count_miss hm]
        rfl
      · have hge := Go.Lib.index_ge r [b]
        obtain ⟨j, hj⟩ : ∃ j : Nat, Go.Lib.index r [b] = j := ⟨(Go.Lib.index r [b]).toNat, by omega⟩
        have hc : Go.Lib.count r [b] = 1 + Go.Lib.count (r.drop (j + 1)) [b] := by
          have := Go.Lib.count_hit (sub := [b]) (by simp) hj
          simpa using this
        rw [hc, Nat.add_comm 1]
        unfold Go.Lib.splitK
        rw [hix, hj]
        have e1 : ¬ (((j : Nat) : Int) == -1) = true := by intro e; have := beq_iff_eq.1 e; omega
        have e2 : ¬ ((((j : Nat) : Int) + 1) == -1) = true := by intro e; have := beq_iff_eq.1 e; omega
        rw [if_neg e1, if_neg e1, if_neg e2]
        have e3 : (((j : Nat) : Int) + 1).toNat = j + 1 := by omega
        rw [e3, Int.toNat_natCast]
        simp
/-- the value of digits -/
def val (l : List UInt8) : Nat := l.foldl (fun n c => 10 * n + (c.toNat - 48)) 0
def isDig (c : UInt8) : Bool := decide (48 ≤ c.toNat ∧ c.toNat ≤ 57)
/-- the number that a text of at most six digits tells, or -1 -/
def num (l : List UInt8) : Int := if (1 ≤ l.length ∧ l.length ≤ 6) ∧ ¬ (l.head? = some 48 ∧ 1 < l.length) ∧ l.all isDig = true then (val l : Int) else -1
theorem val_snoc (l : List UInt8) (c : UInt8) : val (l ++ [c]) = 10 * val l + (c.toNat - 48) := by
  unfold val
  rw [List.foldl_append]
  rfl
theorem dig_of (d : Nat) (h : d < 10) : (UInt8.ofNat (48 + d)).toNat = 48 + d := by
  rw [UInt8.toNat_ofNat']
  omega
theorem dec_val (n : Nat) : val (Go.Lib.decDigits n) = n ∧ (Go.Lib.decDigits n).all isDig = true := by
  induction n using Nat.strongRecOn with
  | _ n ih =>
    rw [Go.Lib.decDigits]
    split
    · rename_i h
      refine ⟨?_, ?_⟩
      · show 10 * 0 + ((UInt8.ofNat (48 + n)).toNat - 48) = n
        rw [dig_of n h]
        omega
      · simp [isDig, dig_of n h]
        omega
    · rename_i h
      obtain ⟨h1, h2⟩ := ih (n / 10) (by omega)
      refine ⟨?_, ?_⟩
      · rw [val_snoc, h1, dig_of (n % 10) (by omega)]
        omega
      · rw [List.all_append, h2]
        simp [isDig, dig_of (n % 10) (by omega)]
        omega
theorem dec_ne (n : Nat) : Go.Lib.decDigits n ≠ [] := by
  rw [Go.Lib.decDigits]
  split <;> simp
theorem dec_head (n : Nat) (hn : 1 ≤ n) : (Go.Lib.decDigits n).head? ≠ some 48 := by
  induction n using Nat.strongRecOn with
  | _ n ih =>
    rw [Go.Lib.decDigits]
    split
    · rename_i h
      intro e
      have e1 : UInt8.ofNat (48 + n) = 48 := Option.some.inj e
      have := congrArg UInt8.toNat e1
      rw [dig_of n h] at this
      have h48 : (48 : UInt8).toNat = 48 := rfl
      omega
    · rename_i h
      rw [hd_app _ _ (dec_ne _)]
      exact ih (n / 10) (by omega) (by omega)
theorem dec_len6 (n : Nat) : ∀ k : Nat, n < 10 ^ k → 1 ≤ k → (Go.Lib.decDigits n).length ≤ k := by
  induction n using Nat.strongRecOn with
  | _ n ih =>
    intro k hk h1
    rw [Go.Lib.decDigits]
    split
    · simp; omega
    · rename_i h
      obtain ⟨k, rfl⟩ : ∃ q, k = q + 1 := ⟨k - 1, by omega⟩
      rw [Nat.pow_succ] at hk
      have hk0 : 1 ≤ k := by
        rcases Nat.eq_zero_or_pos k with z | z
        · subst z; simp at hk; omega
        · exact z
      have := ih (n / 10) (by omega) k (by omega) hk0
      rw [List.length_append, List.length_singleton]
      omega
/-- a number below a million, in decimal, is read as itself -/
theorem num_dec (n : Nat) (hn : n < 1000000) : num (Go.Lib.decDigits n) = n := by
  obtain ⟨h1, h2⟩ := dec_val n
  have h3 := dec_len6 n 6 (by omega) (by omega)
  have h4 : 1 ≤ (Go.Lib.decDigits n).length := List.length_pos_iff.mpr (dec_ne n)
  have h5 : ¬ ((Go.Lib.decDigits n).head? = some 48 ∧ 1 < (Go.Lib.decDigits n).length) := by
    rintro ⟨e1, e2⟩
    rcases Nat.eq_zero_or_pos n with z | z
    · subst z
      rw [Go.Lib.decDigits_one (by omega)] at e2
      simp at e2
    · exact dec_head n z e1
  unfold num
  rw [if_pos ⟨⟨h4, h3⟩, h5, h2⟩, h1]
theorem val_le (l : List UInt8) : ∀ (hd : l.all isDig = true), val l + 1 ≤ 10 ^ l.length := by
  revert l
  refine snoc_ind ?_ ?_
  · intro _
    simp [val]
  · intro l c ih hd
    rw [List.all_append, Bool.and_eq_true] at hd
    have h1 := ih hd.1
    have h2 : 48 ≤ c.toNat ∧ c.toNat ≤ 57 := by simpa [isDig] using hd.2
    rw [val_snoc, List.length_append, List.length_singleton, Nat.pow_succ]
    omega
/-- digits without a superfluous zero are the decimal of their value -/
theorem dec_of_val (l : List UInt8) : l ≠ [] → l.all isDig = true → ¬ (l.head? = some 48 ∧ 1 < l.length) → Go.Lib.decDigits (val l) = l := by
  revert l
  refine snoc_ind ?_ ?_
  · intro h
    exact absurd rfl h
  · intro l c ih _ hd hz
    rw [List.all_append, Bool.and_eq_true] at hd
    have h2 : 48 ≤ c.toNat ∧ c.toNat ≤ 57 := by simpa [isDig] using hd.2
    have hc : UInt8.ofNat (48 + (c.toNat - 48)) = c := by
      rw [show 48 + (c.toNat - 48) = c.toNat by omega]
      exact UInt8.ofNat_toNat
    by_cases hne : l = []
    · subst hne
      rw [List.nil_append]
      have : val [c] = c.toNat - 48 := by show 10 * 0 + (c.toNat - 48) = _; omega
      rw [this, Go.Lib.decDigits_one (by omega), hc]
    · have hp := List.length_pos_iff.mpr hne
      have hh : l.head? = (l ++ [c]).head? := (hd_app _ _ hne).symm
      have ih2 := ih hne hd.1 (fun h => hz ⟨by rw [← hh]; exact h.1, by rw [List.length_append]; have := h.2; omega⟩)
      have hv : 1 ≤ val l := by
        rcases Nat.eq_zero_or_pos (val l) with z | z
        · rw [z, Go.Lib.decDigits_one (by omega)] at ih2
          exfalso
          refine hz ⟨?_, by rw [List.length_append, List.length_singleton]; omega⟩
          rw [← hh, ← ih2]
          rfl
        · exact z
      rw [val_snoc, Go.Lib.decDigits, dif_neg (by omega)]
      have e1 : (10 * val l + (c.toNat - 48)) / 10 = val l := by omega
      have e2 : (10 * val l + (c.toNat - 48)) % 10 = c.toNat - 48 := by omega
      rw [e1, e2, ih2, hc]
theorem num_yes (l : List UInt8) (h : 0 ≤ num l) : Go.Lib.itoa (num l) = l ∧ num l < 1000000 := by
  unfold num at h ⊢
  by_cases c : (1 ≤ l.length ∧ l.length ≤ 6) ∧ ¬ (l.head? = some 48 ∧ 1 < l.length) ∧ l.all isDig = true
  · rw [if_pos c]
    have h1 := val_le l c.2.2
    have h2 : (10 : Nat) ^ l.length ≤ 10 ^ 6 := Nat.pow_le_pow_right (by omega) c.1.2
    rw [itoa_nat]
    exact ⟨dec_of_val l (fun e => by rw [e] at c; simp at c) c.2.2 c.2.1, by omega⟩
  · rw [if_neg c] at h
    omega
theorem parse_dec (l : List UInt8) (hd : l.all isDig = true) : ∀ acc : Nat, (acc + 1) * 10 ^ l.length ≤ 1000000000000 → Go.Lib.parseUint10 acc l = .ok (l.foldl (fun n c => 10 * n + (c.toNat - 48)) acc) := by
  induction l with
  | nil => intro acc _; rfl
  | cons c r ih =>
    intro acc ha
    rw [List.all_cons, Bool.and_eq_true] at hd
    have h2 : 48 ≤ c.toNat ∧ c.toNat ≤ 57 := by simpa [isDig] using hd.1
    rw [List.length_cons, Nat.pow_succ] at ha
    have hp : 1 ≤ 10 ^ r.length := Nat.one_le_pow _ _ (by omega)
    have hm : (acc + 1) * 10 * 1 ≤ (acc + 1) * 10 * 10 ^ r.length := Nat.mul_le_mul_left _ hp
    have ha2 : (acc + 1) * 10 * 10 ^ r.length ≤ 1000000000000 := by rw [Nat.mul_assoc, Nat.mul_comm 10]; exact ha
    have hs : (acc * 10 + (c.toNat - 48) + 1) * 10 ^ r.length ≤ (acc + 1) * 10 * 10 ^ r.length := Nat.mul_le_mul_right _ (by omega)
    unfold Go.Lib.parseUint10
    rw [if_pos h2, if_neg (by omega), if_neg (by omega), ih hd.2 _ (by omega), List.foldl_cons, Nat.mul_comm acc 10]
theorem atoi_dec (n : Nat) (hn : n < 1000000) : Go.Lib.atoiAll (Go.Lib.decDigits n) = .ok (n : Int) := by
  obtain ⟨h1, h2⟩ := dec_val n
  have h3 := dec_len6 n 6 (by omega) (by omega)
  obtain ⟨c, r, hcr⟩ : ∃ c r, Go.Lib.decDigits n = c :: r := by
    cases h : Go.Lib.decDigits n with
    | nil => exact absurd h (dec_ne n)
    | cons c r => exact ⟨c, r, rfl⟩
  have hp := parse_dec (Go.Lib.decDigits n) h2 0 (by
    have : (10 : Nat) ^ (Go.Lib.decDigits n).length ≤ 10 ^ 6 := Nat.pow_le_pow_right (by omega) h3
    omega)
  have hv : Go.Lib.parseUint10 0 (Go.Lib.decDigits n) = .ok n := by rw [hp]; exact congrArg _ h1
  rw [hcr] at hv h2 ⊢
  rw [List.all_cons, Bool.and_eq_true] at h2
  have hc : 48 ≤ c.toNat ∧ c.toNat ≤ 57 := by simpa [isDig] using h2.1
  unfold Go.Lib.atoiAll
  simp only
  rw [if_neg (by omega)]
  unfold Go.Lib.parseMag
  rw [if_neg (by simp), hv]
  simp only
  rw [if_neg (by omega), if_neg (by omega), if_neg (by omega)]
theorem readN_num (s : ByteArray) (h : 0 ≤ num s.data.toList) : readN s = (num s.data.toList, true) := by
  obtain ⟨h1, h2⟩ := num_yes _ h
  obtain ⟨n, hn⟩ := Int.eq_ofNat_of_zero_le h
  rw [hn] at h1 h2 ⊢
  have ha := atoi_dec n (by omega)
  rw [← itoa_nat, h1] at ha
  unfold readN
  rw [ha]
  simp only
  rw [if_pos h1]
theorem num_readN (s : ByteArray) (v : Int) (h : readN s = (v, true)) (hv : 0 ≤ v ∧ v < 1000000) : num s.data.toList = v := by
  obtain ⟨n, rfl⟩ := Int.eq_ofNat_of_zero_le hv.1
  have key : Go.Lib.itoa (n : Int) = s.data.toList := by
    unfold readN at h
    split at h
    · rename_i w _
      split at h
      · rename_i z
        obtain ⟨rfl, _⟩ := Prod.mk.inj h
        exact z
      · cases (Prod.mk.inj h).2
    · cases (Prod.mk.inj h).2
  rw [← key, itoa_nat]
  exact num_dec n (by omega)
theorem ext_tx (s : ByteArray) (i j : Nat) : s.extract i j = tx ((s.data.toList.drop i).take (j - i)) := by
  apply ByteArray.ext
  rw [ByteArray.data_extract]
  apply Array.toList_inj.mp
  rw [Array.toList_extract, tx_data, List.extract_eq_take_drop]
theorem bt_byte (s : ByteArray) (i : Nat) (h : i < s.data.toList.length) : bt s (i : Int) = (s.data.toList[i].toNat : Int) := by
  have hz : s.data.toList.length = s.size := by rw [Array.length_toList]; rfl
  unfold bt
  rw [dif_pos (by omega)]
  rfl
theorem l1Split_l0 (s : ByteArray) (b : UInt8) (hs : s.data.toList.length ≤ 1048576) (q : Nat) : ∀ (k i f : Nat) (out : List ByteArray), i + q = s.data.toList.length → f ≤ i → out.length ≤ i → q < k →
    spec_l1Split.l0 k s (b.toNat : Int) out (f : Int) (i : Int) = some (out ++ (spA b ((s.data.toList.drop f).take (i - f)) (s.data.toList.drop i)).map tx) := by
  have hz : s.size = s.data.toList.length := by rw [Array.length_toList]; rfl
  induction q with
  | zero =>
    intro k i f out hi hf ho hk
    obtain ⟨k, rfl⟩ : ∃ m, k = m + 1 := ⟨k - 1, by omega⟩
    simp only [spec_l1Split.l0]
    rw [hz, if_neg (by omega), if_pos (by omega), if_pos (by omega), if_pos (by omega), ext_tx, List.drop_of_length_le (show s.data.toList.length ≤ i by omega)]
    have e : i = s.data.toList.length := by omega
    rw [e]
    rfl
  | succ q ih =>
    intro k i f out hi hf ho hk
    obtain ⟨k, rfl⟩ : ∃ m, k = m + 1 := ⟨k - 1, by omega⟩
    have hlt : i < s.data.toList.length := by omega
    have e1 : wrap64 ((i : Int) + 1) = ((i + 1 : Nat) : Int) := by rw [w64 (by omega)]; rfl
    simp only [spec_l1Split.l0]
    rw [hz, if_pos (by omega), if_pos (by omega), bt_byte s i hlt, e1, List.drop_eq_getElem_cons hlt]
    unfold spA
    by_cases z : s.data.toList[i] = b
    · rw [if_pos z, z, if_pos rfl, if_pos (by omega), if_pos (by omega), if_pos (by omega), if_pos (by omega), ext_tx, ih k (i + 1) (i + 1) _ (by omega) (Nat.le_refl _) (by rw [List.length_append, List.length_singleton]; omega) (by omega)]
      rw [Nat.sub_self, List.take_zero, List.map_cons, List.append_assoc]
      rfl
    · have z2 : ¬ ((s.data.toList[i].toNat : Int) = (b.toNat : Int)) := by
        intro e
        exact z (UInt8.toNat_inj.mp (by omega))
      rw [if_neg z, if_neg z2, ih k (i + 1) f out (by omega) (by omega) (by omega) (by omega)]
      have e2 : (s.data.toList.drop f).take (i + 1 - f) = (s.data.toList.drop f).take (i - f) ++ [s.data.toList[i]] := by
        rw [show i + 1 - f = (i - f) + 1 by omega, List.take_add_one, List.getElem?_drop, show f + (i - f) = i by omega, List.getElem?_eq_getElem hlt]
        rfl
      rw [e2]
theorem spec_l1Split_eq (s : ByteArray) (b : UInt8) (hs : s.data.toList.length ≤ 1048576) (k : Nat) (hk : s.data.toList.length < k) : spec_l1Split.f k s (b.toNat : Int) = some ((sp b s.data.toList).map tx) := by
  have := l1Split_l0 s b hs s.data.toList.length k 0 0 [] (by omega) (Nat.le_refl _) (Nat.le_refl _) hk
  unfold spec_l1Split.f
  rw [List.nil_append, Nat.sub_self, List.take_zero, List.drop_zero, spA_nil] at this
  exact this
theorem l1Read_l0 (s : ByteArray) (hs : s.data.toList.length ≤ 6) (q : Nat) : ∀ (k i : Nat), i + q = s.data.toList.length → q < k → (s.data.toList.take i).all isDig = true →
    spec_l1Read.l0 k s (val (s.data.toList.take i) : Int) (i : Int) = some (if s.data.toList.all isDig = true then (val s.data.toList : Int) else -1) := by
  have hz : s.size = s.data.toList.length := by rw [Array.length_toList]; rfl
  induction q with
  | zero =>
    intro k i hi hk hd
    obtain ⟨k, rfl⟩ : ∃ m, k = m + 1 := ⟨k - 1, by omega⟩
    rw [List.take_of_length_le (by omega)] at hd ⊢
    simp only [spec_l1Read.l0]
    rw [hz, if_neg (by omega), if_pos hd]
  | succ q ih =>
    intro k i hi hk hd
    obtain ⟨k, rfl⟩ : ∃ m, k = m + 1 := ⟨k - 1, by omega⟩
    have hlt : i < s.data.toList.length := by omega
    have e1 : wrap64 ((i : Int) + 1) = ((i + 1 : Nat) : Int) := by rw [w64 (by omega)]; rfl
    have et : s.data.toList.take (i + 1) = s.data.toList.take i ++ [s.data.toList[i]] := by rw [List.take_add_one, List.getElem?_eq_getElem hlt]; rfl
    simp only [spec_l1Read.l0]
    rw [hz, if_pos (by omega), if_pos (by omega), bt_byte s i hlt, e1]
    by_cases z : isDig s.data.toList[i] = true
    · have z2 : 48 ≤ s.data.toList[i].toNat ∧ s.data.toList[i].toNat ≤ 57 := by simpa [isDig] using z
      have hv := val_le _ hd
      have hp : (10 : Nat) ^ (s.data.toList.take i).length ≤ 10 ^ 5 := Nat.pow_le_pow_right (by omega) (by rw [List.length_take]; omega)
      have next := ih k (i + 1) (by omega) (by omega) (by rw [et, List.all_append, hd, List.all_cons, z]; rfl)
      rw [et, val_snoc] at next
      generalize val (s.data.toList.take i) = v at *
      generalize s.data.toList[i].toNat = c at *
      have e2 : wrap64 (wrap64 (10 * (v : Int)) + ((c : Int) - 48) % 256) = ((10 * v + (c - 48) : Nat) : Int) := by
        rw [w64 (x := 10 * (v : Int)) (by omega), w64 (by omega)]
        omega
      rw [if_neg (by omega), if_neg (by omega), e2]
      exact next
    · have z3 : ¬ s.data.toList.all isDig = true := by
        intro e
        exact z (List.all_eq_true.mp e _ (List.getElem_mem hlt))
      have z2 : ¬ (48 ≤ s.data.toList[i].toNat ∧ s.data.toList[i].toNat ≤ 57) := by
        intro e
        exact z (by simpa [isDig] using e)
      rw [if_neg z3]
      by_cases y : (s.data.toList[i].toNat : Int) < 48
      · rw [if_pos y]
      · rw [if_neg y, if_pos (by omega)]
theorem spec_l1Read_eq (s : ByteArray) (k : Nat) (hk : 7 < k) : spec_l1Read.f k s = some (num s.data.toList) := by
  have hz : s.size = s.data.toList.length := by rw [Array.length_toList]; rfl
  obtain ⟨k, rfl⟩ : ∃ m, k = m + 1 := ⟨k - 1, by omega⟩
  unfold spec_l1Read.f num
  rw [spec_l1In_eq]
  simp only [Option.bind_some]
  rw [hz]
  by_cases h : 1 ≤ (s.data.toList.length : Int) ∧ (s.data.toList.length : Int) ≤ 6
  · rw [decide_eq_true h, if_pos rfl, if_pos (by omega)]
    have e0 : bt s 0 = (s.data.toList[0].toNat : Int) := bt_byte s 0 (by omega)
    have loop := l1Read_l0 s (by omega) s.data.toList.length k 0 (by omega) (by omega) (by rw [List.take_zero]; rfl)
    have loop2 : spec_l1Read.l0 k s 0 0 = some (if s.data.toList.all isDig = true then (val s.data.toList : Int) else -1) := loop
    have hh : s.data.toList.head? = some s.data.toList[0] := by rw [List.head?_eq_getElem?, List.getElem?_eq_getElem]
    rw [e0, hh]
    by_cases z : s.data.toList[0] = 48
    · rw [z, if_pos (show (((48 : UInt8).toNat : Nat) : Int) = 48 from rfl)]
      simp only [spec_l1Read.j0]
      by_cases y : 1 < s.data.toList.length
      · rw [if_pos (decide_eq_true (by omega)), if_neg (fun e => e.2.1 ⟨trivial, y⟩)]
      · rw [decide_eq_false (by omega), if_neg Bool.false_ne_true, loop2]
        by_cases x : s.data.toList.all isDig = true
        · rw [if_pos x, if_pos ⟨by omega, fun e => y e.2, x⟩]
        · rw [if_neg x, if_neg (fun e => x e.2.2)]
    · have z2 : ¬ (s.data.toList[0].toNat : Int) = 48 := by
        intro e
        exact z (UInt8.toNat_inj.mp (by have : (48 : UInt8).toNat = 48 := rfl; omega))
      rw [if_neg z2]
      simp only [spec_l1Read.j0]
      rw [if_neg Bool.false_ne_true, loop2]
      by_cases x : s.data.toList.all isDig = true
      · rw [if_pos x, if_pos ⟨by omega, fun e => z (Option.some.inj e.1), x⟩]
      · rw [if_neg x, if_neg (fun e => x e.2.2)]
  · rw [decide_eq_false h, if_neg Bool.false_ne_true, if_neg (fun e => h (by have := e.1; omega))]
    simp only [spec_l1Read.j0, if_true]
theorem impl_within_eq (a b c : Int) : impl_within.f a b c = some (decide (b ≤ a ∧ a ≤ c)) := by
  unfold impl_within.f
  by_cases h : b ≤ a <;> simp [h]
theorem impl_IsChase_no (a l r d : Int) (h : ¬ isCh a l r d) : impl_IsChase.f a l r d = some false := by
  unfold isCh at h
  simp only [impl_IsChase.f, impl_within_eq, Option.bind_some]
  by_cases h1 : 1 ≤ a ∧ a ≤ 1000
  · by_cases h2 : 0 ≤ l ∧ l ≤ 20
    · by_cases h3 : 0 ≤ r ∧ r ≤ 20
      · simp only [h1, h2, h3, and_self, decide_true, if_true]
        rw [w64 (by omega)]
        by_cases h4 : l + r > 0
        · rw [if_pos h4]
          by_cases h5 : d > mx l r
          · rw [if_pos h5]
            unfold mx at h5
            simp only [Option.some.injEq, decide_eq_false_iff_not]
            split at h5 <;> omega
          · rw [if_neg h5]
        · rw [if_neg h4]
      · simp [h1, h2, h3]
    · simp [h1, h2]
  · simp [h1]
theorem impl_IsChase_yes (a l r d : Int) (h : isCh a l r d) : impl_IsChase.f a l r d = some true := by
  unfold isCh at h
  obtain ⟨h1, h2, h3, h4, h5, h6, h7⟩ := h
  simp only [impl_IsChase.f, impl_within_eq, Option.bind_some, h1, h2, h3, and_self, decide_true, if_true]
  rw [w64 (by omega), if_pos (show l + r > 0 by omega), if_pos (show d > mx l r by unfold mx; split <;> omega)]
  simp [h7]
theorem impl_isChaseTime_eq (a l r d n e : Int) (h : isCh a l r d) : impl_isChaseTime.f a l r d n e = some (decide (isTime a l r n e)) := by
  have hc := impl_IsChase_yes a l r d h
  unfold isCh at h
  unfold isTime
  simp only [impl_isChaseTime.f, hc, impl_within_eq, Option.bind_some, if_true]
  by_cases h1 : 0 ≤ n ∧ n ≤ 1000
  · by_cases h2 : 1 ≤ e ∧ e ≤ 100
    · have p1 := bm (A := 1000) (B := 40) (a := n) (b := l + r) (by omega) (by omega)
      have p2 := bm (A := 1000) (B := 100) (a := a) (b := e) (by omega) (by omega)
      rw [w64 (x := l + r) (by omega), w64 (x := n * (l + r)) (by omega), w64 (x := a * e) (by omega)]
      simp [h1, h2]
    · simp [h1, h2]
  · simp [h1]
theorem impl_isChaseTime_no (a l r d n e : Int) (h : ¬ isCh a l r d) : impl_isChaseTime.f a l r d n e = some false := by
  simp only [impl_isChaseTime.f, impl_IsChase_no a l r d h, Option.bind_some]
  rfl
theorem impl_divisorOf_l0 (n : Nat) : ∀ (k : Nat) (a b : Int), 0 ≤ a → 0 ≤ b → b ≤ n → n < k → impl_divisorOf.l0 k a b = some (Int.gcd a b : Int) := by
  induction n with
  | zero =>
    intro k a b ha hb hn hk
    obtain ⟨k, rfl⟩ : ∃ m, k = m + 1 := ⟨k - 1, by omega⟩
    obtain rfl : b = 0 := by omega
    simp only [impl_divisorOf.l0]
    rw [if_neg (by omega), Int.gcd_zero_right]
    congr 1
    omega
  | succ n ih =>
    intro k a b ha hb hn hk
    obtain ⟨k, rfl⟩ : ∃ m, k = m + 1 := ⟨k - 1, by omega⟩
    simp only [impl_divisorOf.l0]
    by_cases h : b > 0
    · rw [if_pos h, if_neg (by omega)]
      have h1 : 0 ≤ a.tmod b := Int.tmod_nonneg b ha
      have h2 : a.tmod b < b := Int.tmod_lt_of_pos a h
      rw [ih k b (a.tmod b) hb h1 (by omega) (by omega), gcd_step a b ha hb]
    · obtain rfl : b = 0 := by omega
      rw [if_neg h, Int.gcd_zero_right]
      congr 1
      omega
theorem impl_divisorOf_eq (k : Nat) (a b : Int) (ha : 0 ≤ a) (hb : 0 ≤ b) (hk : b < k) : impl_divisorOf.f k a b = some (Int.gcd a b : Int) := by
  unfold impl_divisorOf.f
  exact impl_divisorOf_l0 b.toNat k a b ha hb (by omega) (by omega)
theorem impl_absOf_eq (a : Int) (h : -9223372036854775807 ≤ a ∧ a ≤ 9223372036854775807) : impl_absOf.f a = some (Int.natAbs a : Int) := by
  unfold impl_absOf.f mx
  rw [w64 (by omega)]
  simp only [Option.some.injEq]
  split <;> omega
theorem impl_lowest_eq (k : Nat) (a b : Int) (hb : 0 < b) (ha : -9223372036854775807 ≤ a ∧ a ≤ 9223372036854775807) (hbb : b ≤ 9223372036854775807) (hk : -(k : Int) < a ∧ a < k) :
    impl_lowest.f k a b = some (lowN a b, lowD a b) := by
  unfold impl_lowest.f
  rw [if_neg (by omega), impl_absOf_eq a ha]
  simp only [Option.bind_some]
  rw [impl_divisorOf_eq k b _ (by omega) (by omega) (by omega)]
  have e : Int.gcd b (a.natAbs : Int) = Int.gcd a b := by
    rw [Int.gcd_comm, Int.gcd, Int.gcd, Int.natAbs_natCast]
  have gp := gpos (a := a) hb
  have r1 := low_range (a := a) hb ha
  have r2 := lowD_range (a := a) hb
  simp only [Option.bind_some, e]
  rw [if_neg (by omega), tdiv_gcd_l, tdiv_gcd_r, w64 (by omega), w64 (by omega)]
theorem impl_apartAt_l0 (a l r d : Int) (h : isCh a l r d) (n : Nat) (hn : n ≤ 7) (q : Nat) : ∀ (k i : Nat), i + q = n → q < k →
    impl_apartAt.l0 k (apA a l r d i) (apO l r d i) (n : Int) (i : Int) a l r d = some (apA a l r d n, apO l r d n) := by
  have g := h
  unfold isCh at g
  have w1 : wrap64 (d + r) = d + r := w64 (by omega)
  have w2 : wrap64 (d - l) = d - l := w64 (by omega)
  have w4 : wrap64 (d + l) = d + l := w64 (by omega)
  have w5 : wrap64 (d - r) = d - r := w64 (by omega)
  have r1 : 0 ≤ d + r ∧ d + r ≤ 40 := by omega
  have r2 : 0 ≤ d + l ∧ d + l ≤ 40 := by omega
  have r3 : 0 ≤ d - l ∧ d - l ≤ 20 := by omega
  have r4 : 0 ≤ d - r ∧ d - r ≤ 20 := by omega
  have ez1 : d + r - l - r = d - l := by omega
  have ez2 : d + l - l - r = d - r := by omega
  clear g
  induction q with
  | zero =>
    intro k i hi hk
    obtain ⟨k, rfl⟩ : ∃ m, k = m + 1 := ⟨k - 1, by omega⟩
    obtain rfl : i = n := by omega
    simp only [impl_apartAt.l0]
    rw [if_neg (by omega)]
  | succ q ih =>
    intro k i hi hk
    obtain ⟨k, rfl⟩ : ∃ m, k = m + 1 := ⟨k - 1, by omega⟩
    have next := ih k (i + 1) (by omega) (by omega)
    have o1 := apO_pos h i
    have o2 := apO_le7 h i (by omega)
    have a1 := apA_pos h i
    have a2 := apA_le h i
    have hO : 0 ≤ apO l r d i ∧ apO l r d i ≤ 163840000000 := ⟨Int.le_trans (by decide) o1, o2⟩
    have hA : 0 ≤ apA a l r d i ∧ apA a l r d i ≤ 163840000000000 := ⟨Int.le_trans (by decide) a1, Int.le_trans a2 (Int.mul_le_mul_of_nonneg_left o2 (by decide))⟩
    have hx : wrap64 ((i : Int) + 1) = ((i + 1 : Nat) : Int) := by
      rw [w64 (by omega)]
      rfl
    have hlt : (i : Int) < (n : Int) := by omega
    simp only [impl_apartAt.l0]
    rw [if_pos hlt, hx]
    by_cases e : i % 2 = 0
    · have eb : both l r d i = d + r := by unfold both; rw [if_pos e]
      have tm := tm_yes i e
      have eA : apA a l r d (i + 1) = apA a l r d i * (d - l) := by rw [← ez1, ← eb]; rfl
      have eO : apO l r d (i + 1) = apO l r d i * (d + r) := by rw [← eb]; rfl
      have x1 : wrap64 (apA a l r d i * (d - l)) = apA a l r d i * (d - l) := w64b (bm hA r3) (by decide)
      have x2 : wrap64 (apO l r d i * (d + r)) = apO l r d i * (d + r) := w64b (bm hO r1) (by decide)
      rw [if_pos tm, w1, w2, x1, x2, ← eA, ← eO]
      exact next
    · have eb : both l r d i = d + l := by unfold both; rw [if_neg e]
      have tm := tm_no i e
      have eA : apA a l r d (i + 1) = apA a l r d i * (d - r) := by rw [← ez2, ← eb]; rfl
      have eO : apO l r d (i + 1) = apO l r d i * (d + l) := by rw [← eb]; rfl
      have x1 : wrap64 (apA a l r d i * (d - r)) = apA a l r d i * (d - r) := w64b (bm hA r4) (by decide)
      have x2 : wrap64 (apO l r d i * (d + l)) = apO l r d i * (d + l) := w64b (bm hO r2) (by decide)
      rw [if_neg tm, w4, w5, x1, x2, ← eA, ← eO]
      exact next
theorem impl_apartAt_eq (a l r d : Int) (h : isCh a l r d) (n : Nat) (hn : n ≤ 7) (k : Nat) (hk : 10 < k) : impl_apartAt.f k a l r d (n : Int) = some (apA a l r d n, apO l r d n) := by
  have := impl_apartAt_l0 a l r d h n hn n k 0 (by omega) (by omega)
  unfold impl_apartAt.f
  simpa [apA, apO] using this
theorem impl_turnTime_eq (a l r d : Int) (h : isCh a l r d) (n : Nat) (hn : n ≤ 7) (k : Nat) (hk : (1000000000000000000 : Int) < k) : impl_turnTime.f k a l r d (n : Int) = some (lowN (apT a l r d n) (apO l r d n), lowD (apT a l r d n) (apO l r d n)) := by
  have inv := apT_inv (a := a) (l := l) (r := r) (d := d) n
  obtain ⟨hT, hP, hA, hQ, hO⟩ := st_ranges h n hn
  have o1 := apO_pos h n
  have g := h
  unfold isCh at g
  have sc := low_scale (apT a l r d n) (apO l r d n) (l + r) (by omega)
  unfold impl_turnTime.f
  rw [impl_apartAt_eq a l r d h n hn k (by omega)]
  simp only [Option.bind_some]
  have p1 := bm (A := 1000) (B := 163840000000) (a := a) (b := apO l r d n) (by omega) hO
  have p2 := bm (A := 163840000000) (B := 40) (a := apO l r d n) (b := l + r) hO (by omega)
  have p3 : 0 < apO l r d n * (l + r) := Int.mul_pos (by omega) (by omega)
  have e1 : a * apO l r d n - apA a l r d n = apT a l r d n * (l + r) := by
    rw [← inv, Int.mul_comm (l + r)]
    omega
  have p4 : -163840000000000 ≤ apT a l r d n * (l + r) ∧ apT a l r d n * (l + r) ≤ 163840000000000 := by omega
  rw [w64 (x := a * apO l r d n) ⟨by omega, by omega⟩, e1, w64 (x := l + r) ⟨by omega, by omega⟩, w64 (x := apT a l r d n * (l + r)) ⟨by omega, by omega⟩, w64 (x := apO l r d n * (l + r)) ⟨by omega, by omega⟩,
    impl_lowest_eq _ _ _ p3 ⟨by omega, by omega⟩ (by omega) ⟨by omega, by omega⟩, sc.1, sc.2]
  rfl
theorem impl_turnsUntil_l0 (a l r d n e : Int) (h : isCh a l r d) (hn : 0 ≤ n ∧ n ≤ 1000) (he : 1 ≤ e ∧ e ≤ 100) (q : Nat) : ∀ (k i : Nat), i + q = 7 → (1000000000000000000 + (q : Int)) < k →
    impl_turnsUntil.l0 k n e (i : Int) a l r d = some ((fst (upT a l r d n e) q i : Nat) : Int) := by
  induction q with
  | zero =>
    intro k i hi hk
    obtain ⟨k, rfl⟩ : ∃ m, k = m + 1 := ⟨k - 1, by omega⟩
    simp only [impl_turnsUntil.l0]
    rw [if_neg (by omega)]
    rfl
  | succ q ih =>
    intro k i hi hk
    obtain ⟨k, rfl⟩ : ∃ m, k = m + 1 := ⟨k - 1, by omega⟩
    have e1 : wrap64 ((i : Int) + 1) = ((i + 1 : Nat) : Int) := by rw [w64 (by omega)]; rfl
    have next := ih k (i + 1) (by omega) (by omega)
    have tt := impl_turnTime_eq a l r d h (i + 1) (by omega) k (by omega)
    obtain ⟨hT, hP, hA, hQ, hO⟩ := st_ranges h (i + 1) (by omega)
    have o1 := apO_pos h (i + 1)
    have c1 := low_nonneg (a := apT a l r d (i + 1)) (b := apO l r d (i + 1)) hT.1 (by omega)
    have c2 := lowD_range (a := apT a l r d (i + 1)) (b := apO l r d (i + 1)) (by omega)
    have w1 : wrap64 (lowN (apT a l r d (i + 1)) (apO l r d (i + 1)) * e) = lowN (apT a l r d (i + 1)) (apO l r d (i + 1)) * e := w64b (bm (B := 100) (show 0 ≤ _ ∧ _ ≤ 163840000000000 from ⟨c1.1, Int.le_trans c1.2 hT.2⟩) (by omega)) (by decide)
    have w2 : wrap64 (n * lowD (apT a l r d (i + 1)) (apO l r d (i + 1))) = n * lowD (apT a l r d (i + 1)) (apO l r d (i + 1)) := w64b (bm hn (show 0 ≤ _ ∧ _ ≤ 163840000000 from ⟨by omega, Int.le_trans c2.2 hO.2⟩)) (by decide)
    have lt := low_test (apT a l r d (i + 1)) (apO l r d (i + 1)) n e (by omega)
    clear hT hP hA hQ hO c1 c2 o1
    have hle : (i : Int) ≤ 6 := by omega
    simp only [impl_turnsUntil.l0]
    rw [if_pos hle, e1, tt]
    simp only [Option.bind_some]
    rw [w1, w2]
    show _ = some (((if decide (apT a l r d (i + 1) * e ≤ n * apO l r d (i + 1)) = true then fst _ q (i + 1) else i : Nat)) : Int)
    by_cases z : apT a l r d (i + 1) * e ≤ n * apO l r d (i + 1)
    · rw [if_neg (fun y => absurd (lt.mp y) (by omega)), decide_eq_true z, if_pos rfl]
      exact next
    · rw [if_pos (lt.mpr (by omega)), decide_eq_false z, if_neg Bool.false_ne_true]
theorem impl_turnsUntil_eq (a l r d n e : Int) (h : isCh a l r d) (hn : 0 ≤ n ∧ n ≤ 1000) (he : 1 ≤ e ∧ e ≤ 100) (k : Nat) (hk : (1000000000000000100 : Int) < k) : impl_turnsUntil.f k a l r d n e = some ((fst (upT a l r d n e) 7 0 : Nat) : Int) := by
  unfold impl_turnsUntil.f
  exact impl_turnsUntil_l0 a l r d n e h hn he 7 k 0 (by omega) (by omega)
theorem w64s {x B : Int} (h : -B ≤ x ∧ x ≤ B) (hB : B ≤ 9223372036854775807) : wrap64 x = x := w64 ⟨by omega, by omega⟩
/-- as far as it ran since the last turn: the numbers of both are small -/
theorem place_wraps {T O P n e d l r a t b : Int} (hT : 0 ≤ T ∧ T ≤ 4096000000000) (hO : 0 ≤ O ∧ O ≤ 4096000000) (hP : 0 ≤ P ∧ P ≤ 4096000000000) (hn : 0 ≤ n ∧ n ≤ 1000) (he : 0 ≤ e ∧ e ≤ 100) (hd : 0 ≤ d ∧ d ≤ 20) :
    wrap64 (P * e) = P * e ∧ wrap64 (n * O) = n * O ∧ wrap64 (T * e) = T * e ∧ wrap64 (n * O - T * e) = n * O - T * e ∧ wrap64 (d * (n * O - T * e)) = d * (n * O - T * e) ∧ wrap64 (-d * (n * O - T * e)) = -d * (n * O - T * e) ∧
    wrap64 (P * e + d * (n * O - T * e)) = P * e + d * (n * O - T * e) ∧ wrap64 (P * e + -d * (n * O - T * e)) = P * e + -d * (n * O - T * e) ∧ wrap64 (O * e) = O * e ∧
    (-100000000000000000 ≤ P * e + d * (n * O - T * e) ∧ P * e + d * (n * O - T * e) ≤ 100000000000000000) ∧ (-100000000000000000 ≤ P * e + -d * (n * O - T * e) ∧ P * e + -d * (n * O - T * e) ≤ 100000000000000000) := by
  have p1 := bm hP he
  have p2 := bm hn hO
  have p3 := bm hT he
  have p4 := bm hO he
  generalize P * e = pe at *
  generalize n * O = no at *
  generalize T * e = te at *
  have p5 : -409600000000000 ≤ no - te ∧ no - te ≤ 409600000000000 := by omega
  have p6 := bms p5 hd
  have e1 : d * (no - te) = (no - te) * d := Int.mul_comm _ _
  have e2 : -d * (no - te) = -((no - te) * d) := by rw [Int.neg_mul, e1]
  rw [e1, e2]
  generalize (no - te) * d = x at *
  refine ⟨w64s (B := 409600000000000) (by omega) (by decide), w64s (B := 409600000000000) (by omega) (by decide), w64s (B := 409600000000000) (by omega) (by decide), w64s (B := 409600000000000) (by omega) (by decide), w64s (B := 100000000000000000) (by omega) (by decide), w64s (B := 100000000000000000) (by omega) (by decide), w64s (B := 100000000000000000) (by omega) (by decide), w64s (B := 100000000000000000) (by omega) (by decide), w64b p4 (by decide), by omega, by omega⟩
theorem impl_wraps {t b n e d l r a : Int} (ht : 0 ≤ t ∧ t ≤ 4096000000000) (hb : 0 ≤ b ∧ b ≤ 4096000000) (hn : 0 ≤ n ∧ n ≤ 1000) (he : 0 ≤ e ∧ e ≤ 100) (hd : 0 ≤ d ∧ d ≤ 20) (hl : 0 ≤ l ∧ l ≤ 20) (hr : 0 ≤ r ∧ r ≤ 20) (ha : 0 ≤ a ∧ a ≤ 1000) :
    wrap64 (a * b) = a * b ∧ wrap64 (a * b * e) = a * b * e ∧ wrap64 (r * t) = r * t ∧ wrap64 (r * t * e) = r * t * e ∧ wrap64 (a * b * e - r * t * e) = a * b * e - r * t * e ∧ wrap64 (n * b) = n * b ∧ wrap64 (t * e) = t * e ∧ wrap64 (n * b - t * e) = n * b - t * e ∧ wrap64 (d * (n * b - t * e)) = d * (n * b - t * e) ∧
    wrap64 (a * b * e - r * t * e - d * (n * b - t * e)) = a * b * e - r * t * e - d * (n * b - t * e) ∧ wrap64 (l * t) = l * t ∧ wrap64 (l * t * e) = l * t * e ∧ wrap64 (l * t * e + d * (n * b - t * e)) = l * t * e + d * (n * b - t * e) ∧ wrap64 (b * e) = b * e ∧
    (-100000000000000000 ≤ a * b * e - r * t * e - d * (n * b - t * e) ∧ a * b * e - r * t * e - d * (n * b - t * e) ≤ 100000000000000000) ∧ (-100000000000000000 ≤ l * t * e + d * (n * b - t * e) ∧ l * t * e + d * (n * b - t * e) ≤ 100000000000000000) := by
  have q1 := bm ha hb
  have q2 := bm q1 he
  have q3 := bm hr ht
  have q4 := bm q3 he
  have q5 := bm hn hb
  have q6 := bm ht he
  have q7 := bm hl ht
  have q8 := bm q7 he
  have q9 := bm hb he
  generalize a * b * e = abe at *
  generalize a * b = ab at *
  generalize r * t * e = rte at *
  generalize r * t = rt at *
  generalize n * b = nb at *
  generalize t * e = te at *
  generalize l * t * e = lte at *
  generalize l * t = lt at *
  have p5 : -409600000000000 ≤ nb - te ∧ nb - te ≤ 409600000000000 := by omega
  have p6 := bms p5 hd
  have e1 : d * (nb - te) = (nb - te) * d := Int.mul_comm _ _
  rw [e1]
  generalize (nb - te) * d = x at *
  refine ⟨w64b q1 (by decide), w64b q2 (by decide), w64b q3 (by decide), w64b q4 (by decide), w64s (B := 100000000000000000) (by omega) (by decide), w64b q5 (by decide), w64b q6 (by decide), w64s (B := 100000000000000000) (by omega) (by decide), w64s (B := 100000000000000000) (by omega) (by decide), w64s (B := 100000000000000000) (by omega) (by decide), w64b q7 (by decide), w64b q8 (by decide), w64s (B := 100000000000000000) (by omega) (by decide), w64b q9 (by decide), by omega, by omega⟩
theorem id_odd (T O t b a r n e d : Int) (cc : t * O = T * b) : ((a * O - r * T) * e + -d * (n * O - T * e)) * (b * e) = (a * b * e - r * t * e - d * (n * b - t * e)) * (O * e) := by grind
theorem id_even (T O t b l n e d : Int) (cc : t * O = T * b) : (l * T * e + d * (n * O - T * e)) * (b * e) = (l * t * e + d * (n * b - t * e)) * (O * e) := by grind
theorem apO_le6 {a l r d : Int} (h : isCh a l r d) (k : Nat) (hk : k ≤ 6) : apO l r d k ≤ 4096000000 := by
  have q := apO_le h
  obtain rfl | rfl | rfl | rfl | rfl | rfl | rfl : k = 0 ∨ k = 1 ∨ k = 2 ∨ k = 3 ∨ k = 4 ∨ k = 5 ∨ k = 6 := by omega
  all_goals omega
theorem par_odd (m : Nat) : (Int.tmod (m : Int) 2 = 1) ↔ ¬ m % 2 = 0 := by
  rw [Int.tmod_eq_emod_of_nonneg (Int.natCast_nonneg m)]
  omega
/-- both search the least dog in the same way -/
theorem slowest_l0 (a l r d n e : Int) (q : Nat) : ∀ (x : Int), -100 ≤ x → x ≤ 100 → 21 - x ≤ q → ∃ y, ∀ k, q < k → spec_SlowestDog.l0 k n e x a l r d = some y ∧ impl_SlowestDog.l0 k n e x a l r d = some y := by
  induction q with
  | zero =>
    intro x h0 h1 hq
    refine ⟨(0, false), fun k hk => ?_⟩
    obtain ⟨k, rfl⟩ : ∃ m, k = m + 1 := ⟨k - 1, by omega⟩
    simp only [spec_SlowestDog.l0, impl_SlowestDog.l0]
    rw [if_neg (by omega), if_neg (by omega)]
    exact ⟨rfl, rfl⟩
  | succ q ih =>
    intro x h0 h1 hq
    by_cases h2 : x ≤ 20
    · by_cases h3 : wrap64 (a * e) ≤ wrap64 (n * (wrap64 (x + r)))
      · refine ⟨(x, true), fun k hk => ?_⟩
        obtain ⟨k, rfl⟩ : ∃ m, k = m + 1 := ⟨k - 1, by omega⟩
        simp only [spec_SlowestDog.l0, impl_SlowestDog.l0]
        rw [if_pos h2, if_pos h2, if_pos h3, if_pos h3]
        exact ⟨rfl, rfl⟩
      · obtain ⟨y, hy⟩ := ih (x + 1) (by omega) (by omega) (by omega)
        refine ⟨y, fun k hk => ?_⟩
        obtain ⟨k, rfl⟩ : ∃ m, k = m + 1 := ⟨k - 1, by omega⟩
        simp only [spec_SlowestDog.l0, impl_SlowestDog.l0]
        rw [if_pos h2, if_pos h2, if_neg h3, if_neg h3, w64 (x := x + 1) (by omega)]
        exact hy k (by omega)
    · refine ⟨(0, false), fun k hk => ?_⟩
      obtain ⟨k, rfl⟩ : ∃ m, k = m + 1 := ⟨k - 1, by omega⟩
      simp only [spec_SlowestDog.l0, impl_SlowestDog.l0]
      rw [if_neg h2, if_neg h2]
      exact ⟨rfl, rfl⟩
theorem slowest_both (k : Nat) (hk : 50 < k) (a l r d n e : Int) (wd : -9223372036854775808 ≤ d ∧ d ≤ 9223372036854775807) :
    ∃ y, spec_SlowestDog.f k a l r d n e = some y ∧ impl_SlowestDog.f k a l r d n e = some y := by
  obtain ⟨k, rfl⟩ : ∃ m, k = m + 1 := ⟨k - 1, by omega⟩
  by_cases h : isCh a l r d
  · have g := h
    unfold isCh at g
    by_cases t : isTime a l r n e
    · obtain ⟨y, hy⟩ := slowest_l0 a l r d n e 21 ((if l > r then l else r) + 1) (by split <;> omega) (by split <;> omega) (by split <;> omega)
      have y1 := (hy k (by omega)).1
      have z2 := (hy (k + 1) (by omega)).2
      refine ⟨y, ?_, ?_⟩
      · simp only [spec_SlowestDog.f, spec_doGood_yes a l r d h, spec_doTime_eq a l r d n e h, Option.bind_some, t, decide_true, if_true, spec_SlowestDog.j0, Bool.not_true, Bool.false_eq_true, if_false, spec_l1Most_eq]
        rw [w64 (by split <;> omega)]
        exact y1
      · have em : mx l r = if l > r then l else r := by
          unfold mx
          split <;> split <;> omega
        simp only [impl_SlowestDog.f, impl_isChaseTime_eq a l r d n e h, Option.bind_some, t, decide_true, if_true]
        rw [em, w64 (by split <;> omega)]
        exact z2
    · refine ⟨(0, false), ?_, ?_⟩
      · simp [spec_SlowestDog.f, spec_doGood_yes a l r d h, spec_doTime_eq a l r d n e h, t, spec_SlowestDog.j0]
      · simp [impl_SlowestDog.f, impl_isChaseTime_eq a l r d n e h, t]
  · refine ⟨(0, false), ?_, ?_⟩
    · simp [spec_SlowestDog.f, spec_doGood_no a l r d wd h, spec_SlowestDog.j0]
    · simp [impl_SlowestDog.f, impl_isChaseTime_no a l r d n e h]
theorem impl_isTurn_eq (a : Int) : impl_isTurn.f a = some (decide (1 ≤ a ∧ a ≤ 6)) := by
  simp only [impl_isTurn.f, impl_within_eq, Option.bind_some]
def dogRow (a l r d : Int) (k : Nat) : List Int := [lowN (apT a l r d k) (apO l r d k), lowD (apT a l r d k) (apO l r d k), lowN (apP a l r d k) (apO l r d k), lowD (apP a l r d k) (apO l r d k)]
def dogRows (a l r d : Int) (n : Nat) : List (List Int) := (List.range n).map fun j => dogRow a l r d (j + 1)
theorem dogRows_length (a l r d : Int) (n : Nat) : (dogRows a l r d n).length = n := by simp [dogRows]
theorem dogRows_succ (a l r d : Int) (n : Nat) : dogRows a l r d (n + 1) = dogRows a l r d n ++ [dogRow a l r d (n + 1)] := by
  unfold dogRows
  rw [List.range_succ, List.map_append]
  rfl
/-- the dog's place at a turn, out of the turn's time in lowest terms -/
theorem dog_place_low (a l r d : Int) (h : isCh a l r d) (i : Nat) (hi : i ≤ 5) (e : i % 2 = 0) :
    lowN (a * lowD (apT a l r d (i + 1)) (apO l r d (i + 1)) - r * lowN (apT a l r d (i + 1)) (apO l r d (i + 1))) (lowD (apT a l r d (i + 1)) (apO l r d (i + 1))) = lowN (apP a l r d (i + 1)) (apO l r d (i + 1)) ∧
    lowD (a * lowD (apT a l r d (i + 1)) (apO l r d (i + 1)) - r * lowN (apT a l r d (i + 1)) (apO l r d (i + 1))) (lowD (apT a l r d (i + 1)) (apO l r d (i + 1))) = lowD (apP a l r d (i + 1)) (apO l r d (i + 1)) := by
  have o1 := apO_pos h (i + 1)
  have c2 := lowD_range (a := apT a l r d (i + 1)) (b := apO l r d (i + 1)) (by omega)
  have cc := low_cross (apT a l r d (i + 1)) (apO l r d (i + 1))
  have ep : apP a l r d (i + 1) = a * apO l r d (i + 1) - r * apT a l r d (i + 1) := by rw [apP_eq, if_neg (par_up i e)]
  refine low_eq (by omega) (by omega) ?_
  rw [ep]
  generalize apT a l r d (i + 1) = T at *
  generalize apO l r d (i + 1) = O at *
  generalize lowN T O = x at *
  generalize lowD T O = y at *
  have : r * x * O = r * T * y := by rw [Int.mul_assoc, cc, Int.mul_assoc]
  rw [Int.sub_mul, Int.sub_mul, this, Int.mul_right_comm]
theorem dog_place_low2 (a l r d : Int) (h : isCh a l r d) (i : Nat) (hi : i ≤ 5) (e : ¬ i % 2 = 0) :
    lowN (l * lowN (apT a l r d (i + 1)) (apO l r d (i + 1))) (lowD (apT a l r d (i + 1)) (apO l r d (i + 1))) = lowN (apP a l r d (i + 1)) (apO l r d (i + 1)) ∧
    lowD (l * lowN (apT a l r d (i + 1)) (apO l r d (i + 1))) (lowD (apT a l r d (i + 1)) (apO l r d (i + 1))) = lowD (apP a l r d (i + 1)) (apO l r d (i + 1)) := by
  have o1 := apO_pos h (i + 1)
  have c2 := lowD_range (a := apT a l r d (i + 1)) (b := apO l r d (i + 1)) (by omega)
  have cc := low_cross (apT a l r d (i + 1)) (apO l r d (i + 1))
  have ep : apP a l r d (i + 1) = l * apT a l r d (i + 1) := by rw [apP_eq, if_pos (par_down i e)]
  refine low_eq (by omega) (by omega) ?_
  rw [ep, Int.mul_assoc, cc, Int.mul_assoc]
theorem impl_DogTurns_l0 (a l r d : Int) (h : isCh a l r d) (n : Nat) (hn : n ≤ 6) (q : Nat) : ∀ (k i : Nat), i + q = n → (1000000000000000000 : Int) + q < k →
    impl_DogTurns.l0 k (dogRows a l r d i ++ List.replicate q []) (n : Int) (i : Int) a l r d = some (dogRows a l r d n, true) := by
  induction q with
  | zero =>
    intro k i hi hk
    obtain ⟨k, rfl⟩ : ∃ m, k = m + 1 := ⟨k - 1, by omega⟩
    obtain rfl : i = n := by omega
    simp only [impl_DogTurns.l0]
    rw [if_neg (by omega), List.replicate_zero, List.append_nil]
  | succ q ih =>
    intro k i hi hk
    obtain ⟨k, rfl⟩ : ∃ m, k = m + 1 := ⟨k - 1, by omega⟩
    have g := h
    unfold isCh at g
    have e1 : wrap64 ((i : Int) + 1) = ((i + 1 : Nat) : Int) := by rw [w64 (by omega)]; rfl
    have hset : (dogRows a l r d i ++ List.replicate (q + 1) []).set (i : Int).toNat (dogRow a l r d (i + 1)) = dogRows a l r d (i + 1) ++ List.replicate q [] := by
      rw [Int.toNat_natCast, List.set_append_right _ _ (by rw [dogRows_length]; exact Nat.le_refl _), dogRows_length, Nat.sub_self, dogRows_succ, List.append_assoc]
      rfl
    have hlen : ((dogRows a l r d i ++ List.replicate (q + 1) []).length : Int) = (n : Int) := by
      rw [List.length_append, dogRows_length, List.length_replicate]
      omega
    have next := ih k (i + 1) (by omega) (by omega)
    rw [← hset] at next
    obtain ⟨hT, hP, hA, hQ, hO⟩ := st_ranges h (i + 1) (by omega)
    have o1 := apO_pos h (i + 1)
    have c1 := low_nonneg (a := apT a l r d (i + 1)) (b := apO l r d (i + 1)) hT.1 (by omega)
    have c2 := lowD_range (a := apT a l r d (i + 1)) (b := apO l r d (i + 1)) (by omega)
    have cc := low_cross (apT a l r d (i + 1)) (apO l r d (i + 1))
    have same := low_eq (a := lowN (apT a l r d (i + 1)) (apO l r d (i + 1))) (b := lowD (apT a l r d (i + 1)) (apO l r d (i + 1))) (c := apT a l r d (i + 1)) (d := apO l r d (i + 1)) (by omega) (by omega) cc
    have m1 := impl_lowest_eq k (lowN (apT a l r d (i + 1)) (apO l r d (i + 1))) (lowD (apT a l r d (i + 1)) (apO l r d (i + 1))) (by omega) ⟨by omega, by omega⟩ (by omega) ⟨by omega, by omega⟩
    rw [same.1, same.2] at m1
    have p1 := bm (A := 1000) (B := 163840000000) (a := a) (b := lowD (apT a l r d (i + 1)) (apO l r d (i + 1))) (by omega) (by omega)
    have p2 := bm (A := 20) (B := 163840000000000) (a := r) (b := lowN (apT a l r d (i + 1)) (apO l r d (i + 1))) (by omega) (by omega)
    have p3 := bm (A := 20) (B := 163840000000000) (a := l) (b := lowN (apT a l r d (i + 1)) (apO l r d (i + 1))) (by omega) (by omega)
    simp only [impl_DogTurns.l0]
    rw [if_pos (by omega), e1, impl_turnTime_eq a l r d h (i + 1) (by omega) k (by omega)]
    simp only [Option.bind_some]
    by_cases e : i % 2 = 0
    · have s2 := dog_place_low a l r d h i (by omega) e
      rw [if_pos (tm_yes i e), m1]
      simp only [Option.bind_some]
      rw [w64 (x := a * lowD (apT a l r d (i + 1)) (apO l r d (i + 1))) ⟨by omega, by omega⟩, w64 (x := r * lowN (apT a l r d (i + 1)) (apO l r d (i + 1))) ⟨by omega, by omega⟩, w64 (x := a * lowD (apT a l r d (i + 1)) (apO l r d (i + 1)) - r * lowN (apT a l r d (i + 1)) (apO l r d (i + 1))) ⟨by omega, by omega⟩,
        impl_lowest_eq k _ _ (by omega) ⟨by omega, by omega⟩ (by omega) ⟨by omega, by omega⟩, s2.1, s2.2]
      simp only [Option.bind_some]
      rw [if_pos (by omega), if_pos (by omega)]
      exact next
    · have s2 := dog_place_low2 a l r d h i (by omega) e
      rw [if_neg (tm_no i e), m1]
      simp only [Option.bind_some]
      rw [w64 (x := l * lowN (apT a l r d (i + 1)) (apO l r d (i + 1))) ⟨by omega, by omega⟩, impl_lowest_eq k _ _ (by omega) ⟨by omega, by omega⟩ (by omega) ⟨by omega, by omega⟩, s2.1, s2.2]
      simp only [Option.bind_some]
      rw [if_pos (by omega), if_pos (by omega)]
      exact next
theorem impl_DogTurns_yes (a l r d : Int) (h : isCh a l r d) (n : Nat) (hn : 1 ≤ n ∧ n ≤ 6) (k : Nat) (hk : (1000000000000000010 : Int) < k) : impl_DogTurns.f k a l r d (n : Int) = some (dogRows a l r d n, true) := by
  obtain ⟨k, rfl⟩ : ∃ m, k = m + 1 := ⟨k - 1, by omega⟩
  have hn1 : 1 ≤ (n : Int) ∧ (n : Int) ≤ 6 := by omega
  simp only [impl_DogTurns.f, impl_IsChase_yes a l r d h, impl_isTurn_eq, Option.bind_some, decide_eq_true hn1, if_true, Bool.not_true, impl_DogTurns.j0, Bool.false_eq_true, if_false]
  rw [if_pos (by omega), if_pos (by omega), Int.toNat_natCast, List.length_replicate]
  have := impl_DogTurns_l0 a l r d h n (by omega) n k 0 (by omega) (by omega)
  simpa [dogRows] using this
theorem impl_allWithin_l0 (lo hi : Int) (l : List Int) (hl : l.length ≤ 1000000000) (d : Nat) : ∀ (k i : Nat), i + d = l.length → d < k →
    impl_allWithin.l0 k lo hi l (l.length : Int) (i : Int) = some (decide (∀ x ∈ l.drop i, lo ≤ x ∧ x ≤ hi)) := by
  induction d with
  | zero =>
    intro k i hi' hk
    obtain ⟨k, rfl⟩ : ∃ m, k = m + 1 := ⟨k - 1, by omega⟩
    simp only [impl_allWithin.l0]
    rw [if_neg (by omega), List.drop_of_length_le (by omega)]
    simp
  | succ d ih =>
    intro k i hi' hk
    obtain ⟨k, rfl⟩ : ∃ m, k = m + 1 := ⟨k - 1, by omega⟩
    have hlt : i < l.length := by omega
    have er : rd l (i : Int) = l[i] := by simp [rd, hlt]
    simp only [impl_allWithin.l0]
    rw [if_pos (by omega), if_pos (by omega), if_pos (by omega), impl_within_eq, er, List.drop_eq_getElem_cons hlt]
    simp only [Option.bind_some]
    have e1 : wrap64 ((i : Int) + 1) = ((i + 1 : Nat) : Int) := by rw [w64 (by omega)]; rfl
    rw [e1, ih k (i + 1) (by omega) (by omega)]
    have e2 : (∀ x ∈ l[i] :: l.drop (i + 1), lo ≤ x ∧ x ≤ hi) ↔ ((lo ≤ l[i] ∧ l[i] ≤ hi) ∧ ∀ x ∈ l.drop (i + 1), lo ≤ x ∧ x ≤ hi) := List.forall_mem_cons
    by_cases h : lo ≤ l[i] ∧ l[i] ≤ hi
    · simp only [h, and_self, decide_true, if_true]
      exact congrArg some (decide_eq_decide.mpr (e2.trans ⟨fun z => z.2, fun z => ⟨h, z⟩⟩).symm)
    · simp only [h, decide_false, Bool.false_eq_true, if_false]
      exact congrArg some (decide_eq_false (fun z => h (e2.1 z).1)).symm
theorem impl_allWithin_eq (k : Nat) (lo hi : Int) (l : List Int) (hl : l.length ≤ 1000000000) (hk : l.length < k) : impl_allWithin.f k l lo hi = some (decide (∀ x ∈ l, lo ≤ x ∧ x ≤ hi)) := by
  unfold impl_allWithin.f
  have := impl_allWithin_l0 lo hi l hl l.length k 0 (by omega) hk
  simpa using this
theorem impl_areLeaps_eq (k : Nat) (hk : 4 < k) (a b c d : Int) : impl_areLeaps.f k [a, b, c, d] = some (decide (isLeaps a b c d)) := by
  unfold impl_areLeaps.f
  rw [impl_allWithin_eq k 1 20 _ (by simp) (by simpa using hk)]
  exact congrArg some (decide_eq_decide.mpr (by unfold isLeaps; simp))
/-- what reading numbers off a text's pieces tells -/
def okN (p : List UInt8) : Bool := (readN (tx p)).2
def valN (p : List UInt8) : Int := (readN (tx p)).1
def readNs (b : UInt8) (l : List UInt8) : List Int × Bool := if (sp b l).all okN = true then ((sp b l).map valN, true) else ([], false)
theorem strings_Split_eq (s : ByteArray) (b : UInt8) (hs : s.data.toList.length < 4294967281) : strings_Split.f s (⟨#[b]⟩ : ByteArray) = some ((sp b s.data.toList).map tx) := by
  have hz : s.size = s.data.toList.length := by rw [Array.length_toList]; rfl
  have e := Go.Lib.splitB_data (⟨#[b]⟩ : ByteArray) 0 (Go.Lib.countB s (⟨#[b]⟩ : ByteArray)) s
  have e2 : Go.Lib.splitK (⟨#[b]⟩ : ByteArray).data.toList 0 (Go.Lib.countB s (⟨#[b]⟩ : ByteArray)) s.data.toList = sp b s.data.toList := splitK_sp b s.data.toList
  rw [e2] at e
  unfold strings_Split.f
  rw [if_pos ⟨by omega, Nat.le_refl _⟩, ← e, List.map_map]
  congr 1
  conv => lhs; rw [← List.map_id (Go.Lib.splitB _ _ _ _)]
  exact List.map_congr_left fun x _ => (tx_of x).symm
theorem readNumbers_l0 (ps : List (List UInt8)) (hl : ps.length ≤ 17592186044415) (hp : ∀ p ∈ ps, p.length ≤ 281474976710656) (q : Nat) : ∀ (k i : Nat), i + q = ps.length → q < k →
    impl_readNumbers.l0 k ((ps.take i).map valN) (ps.map tx) ((ps.map tx).length : Int) (i : Int) = some (if (ps.drop i).all okN = true then (ps.map valN, true) else ([], false)) := by
  induction q with
  | zero =>
    intro k i hi hk
    obtain ⟨k, rfl⟩ : ∃ m, k = m + 1 := ⟨k - 1, by omega⟩
    simp only [impl_readNumbers.l0]
    rw [List.length_map, if_neg (by omega), List.take_of_length_le (by omega), List.drop_of_length_le (by omega)]
    rfl
  | succ q ih =>
    intro k i hi hk
    obtain ⟨k, rfl⟩ : ∃ m, k = m + 1 := ⟨k - 1, by omega⟩
    have hlt : i < ps.length := by omega
    have e1 : wrap64 ((i : Int) + 1) = ((i + 1 : Nat) : Int) := by rw [w64 (by omega)]; rfl
    have er : rdOf ByteArray.empty (ps.map tx) (i : Int) = tx ps[i] := by simp [rdOf, hlt]
    have hsz : (tx ps[i]).size ≤ 281474976710656 := by rw [tx_size]; exact hp _ (List.getElem_mem hlt)
    have next := ih k (i + 1) (by omega) (by omega)
    have et : ps.take (i + 1) = ps.take i ++ [ps[i]] := by rw [List.take_add_one, List.getElem?_eq_getElem hlt]; rfl
    rw [et, List.map_append, List.length_map] at next
    simp only [impl_readNumbers.l0, impl_readNumber.f]
    rw [List.length_map, if_pos (by omega), if_pos (by omega), if_pos (by omega), er, if_pos hsz, List.drop_eq_getElem_cons hlt, List.all_cons]
    simp only [Option.bind_some]
    by_cases z : okN ps[i] = true
    · have z2 : (readN (tx ps[i])).2 = true := z
      rw [if_pos z2, if_pos (by rw [List.length_map, List.length_take]; omega), e1, z, Bool.true_and]
      exact next
    · have z2 : ¬ (readN (tx ps[i])).2 = true := z
      rw [if_neg z2, if_neg (by intro e; exact z (Bool.and_eq_true _ _ |>.mp e).1)]
theorem impl_readNumbers_eq (s : ByteArray) (b : UInt8) (hs : s.data.toList.length ≤ 1048576) (k : Nat) (hk : 1048580 < k) : impl_readNumbers.f k s (⟨#[b]⟩ : ByteArray) = some (readNs b s.data.toList) := by
  have hn := sp_len b s.data.toList
  have := readNumbers_l0 (sp b s.data.toList) (by omega) (fun p hp => by have := sp_small b s.data.toList p hp; omega) (sp b s.data.toList).length k 0 (by omega) (by omega)
  unfold impl_readNumbers.f
  rw [strings_Split_eq s b (by omega)]
  exact this
theorem readNs_len (b : UInt8) (l : List UInt8) (h : (readNs b l).2 = true) : (readNs b l).1 = (sp b l).map valN ∧ (sp b l).all okN = true := by
  unfold readNs at h ⊢
  by_cases z : (sp b l).all okN = true
  · rw [if_pos z]
    exact ⟨rfl, z⟩
  · rw [if_neg z] at h
    cases h
/-- a piece told as a number is read as that number -/
theorem ok_of_num (p : List UInt8) (h : 0 ≤ num p) : okN p = true ∧ valN p = num p := by
  have := readN_num (tx p) (by rw [tx_data]; exact h)
  rw [tx_data] at this
  unfold okN valN
  rw [this]
  exact ⟨rfl, rfl⟩
theorem num_of_ok (p : List UInt8) (h : okN p = true) (hv : 0 ≤ valN p ∧ valN p < 1000000) : num p = valN p := by
  have := num_readN (tx p) (valN p) (by unfold okN at h; unfold valN; rw [← h]) hv
  rwa [tx_data] at this
/-- the decimal of a number, as a length -/
theorem piece_len (p : List UInt8) (k : Nat) (hk : 1 ≤ k) (h : 0 ≤ num p ∧ num p < 10 ^ k) : p.length ≤ k := by
  obtain ⟨n, hn⟩ := Int.eq_ofNat_of_zero_le h.1
  obtain ⟨h1, h2⟩ := num_yes p h.1
  rw [hn] at h1 h
  rw [itoa_nat] at h1
  rw [← h1]
  exact dec_len6 n k (by have := h.2; exact_mod_cast this) hk
theorem join_len (xs : List (List UInt8)) (sep : List UInt8) (M : Nat) (h : ∀ x ∈ xs, x.length ≤ M) : (Go.Lib.join xs sep).length ≤ xs.length * (M + sep.length) := by
  have tail : ∀ ys : List (List UInt8), (∀ x ∈ ys, x.length ≤ M) → (Go.Lib.joinTail sep ys).length ≤ ys.length * (M + sep.length) := by
    intro ys
    induction ys with
    | nil => intro _; simp [Go.Lib.joinTail]
    | cons y r ih =>
      intro hy
      have h1 := hy y List.mem_cons_self
      have h2 := ih (fun x hx => hy x (List.mem_cons_of_mem _ hx))
      unfold Go.Lib.joinTail at *
      rw [List.map_cons, List.flatten_cons, List.length_append, List.length_append, List.length_cons, Nat.succ_mul]
      omega
  cases xs with
  | nil => simp [Go.Lib.join_nil]
  | cons x r =>
    have h1 := h x List.mem_cons_self
    have h2 := tail r (fun y hy => h y (List.mem_cons_of_mem _ hy))
    rw [Go.Lib.join_cons, List.length_append, List.length_cons, Nat.succ_mul]
    omega
theorem strings_Join_eq (xs : List (List UInt8)) (sep : ByteArray) (h : (Go.Lib.join xs sep.data.toList).length ≤ 140737488355328) (hl : xs.length ≤ 140737488355328) : strings_Join.f (xs.map tx) sep = some (tx (Go.Lib.join xs sep.data.toList)) := by
  have e : (xs.map tx).map (·.data.toList) = xs := by
    rw [List.map_map]
    conv => rhs; rw [← List.map_id xs]
    exact List.map_congr_left fun x _ => tx_data x
  unfold strings_Join.f
  rw [e, if_pos ⟨h, by rw [List.length_map]; exact hl⟩]
  rfl
theorem joinNumbers_l0 (l : List Int) (sep : ByteArray) (hl : l.length ≤ 1000) (hb : ∀ x ∈ l, 0 ≤ x ∧ x ≤ 1000000) (hs : sep.size ≤ 1000) (q : Nat) : ∀ (k i : Nat), i + q = l.length → q < k →
    impl_joinNumbers.l0 k sep ((l.take i).map (fun x => tx (Go.Lib.itoa x)) ++ List.replicate q (tx [])) l (l.length : Int) (i : Int) = some (tx (Go.Lib.join (l.map Go.Lib.itoa) sep.data.toList)) := by
  induction q with
  | zero =>
    intro k i hi hk
    obtain ⟨k, rfl⟩ : ∃ m, k = m + 1 := ⟨k - 1, by omega⟩
    have e : ((l.take i).map (fun x => tx (Go.Lib.itoa x)) ++ List.replicate 0 (tx [])) = (l.map Go.Lib.itoa).map tx := by
      rw [List.replicate_zero, List.append_nil, List.take_of_length_le (by omega), List.map_map]
      rfl
    have hj := join_len (l.map Go.Lib.itoa) sep.data.toList 1000001 (by
      intro x hx
      obtain ⟨y, hy, rfl⟩ := List.mem_map.mp hx
      have h1 := hb y hy
      have h2 := itoa_len y h1.1
      omega)
    have hz : sep.data.toList.length = sep.size := by rw [Array.length_toList]; rfl
    rw [List.length_map, hz] at hj
    have hm : l.length * (1000001 + sep.size) ≤ 1000 * 1001001 := Nat.mul_le_mul hl (by omega)
    simp only [impl_joinNumbers.l0]
    rw [if_neg (by omega), e, strings_Join_eq (l.map Go.Lib.itoa) sep (by omega) (by rw [List.length_map]; omega)]
    rfl
  | succ q ih =>
    intro k i hi hk
    obtain ⟨k, rfl⟩ : ∃ m, k = m + 1 := ⟨k - 1, by omega⟩
    have hlt : i < l.length := by omega
    have e1 : wrap64 ((i : Int) + 1) = ((i + 1 : Nat) : Int) := by rw [w64 (by omega)]; rfl
    have er : rd l (i : Int) = l[i] := by simp [rd, hlt]
    have hx := hb l[i] (List.getElem_mem hlt)
    have eI : strconv_Itoa.f l[i] = some (tx (Go.Lib.itoa l[i])) := by
      unfold strconv_Itoa.f
      rw [if_pos (by omega)]
      rfl
    have hlen : ((l.take i).map (fun x => tx (Go.Lib.itoa x)) ++ List.replicate (q + 1) (tx [])).length = l.length := by
      rw [List.length_append, List.length_map, List.length_take, List.length_replicate]
      omega
    have es : ((l.take i).map (fun x => tx (Go.Lib.itoa x)) ++ List.replicate (q + 1) (tx [])).set (i : Int).toNat (tx (Go.Lib.itoa l[i])) = (l.take (i + 1)).map (fun x => tx (Go.Lib.itoa x)) ++ List.replicate q (tx []) := by
      have hi2 : ((l.take i).map (fun x => tx (Go.Lib.itoa x))).length = i := by rw [List.length_map, List.length_take]; omega
      rw [Int.toNat_natCast, List.set_append_right _ _ (by rw [hi2]; exact Nat.le_refl _), hi2, Nat.sub_self, List.replicate_succ, List.set_cons_zero, List.take_add_one, List.getElem?_eq_getElem hlt, List.map_append]
      simp
    have next := ih k (i + 1) (by omega) (by omega)
    rw [← es] at next
    simp only [impl_joinNumbers.l0]
    rw [if_pos (by omega), if_pos (by omega), if_pos (by omega), er, eI]
    simp only [Option.bind_some]
    rw [hlen, if_pos (by omega), e1]
    exact next
theorem impl_joinNumbers_eq (l : List Int) (sep : ByteArray) (hl : l.length ≤ 1000) (hb : ∀ x ∈ l, 0 ≤ x ∧ x ≤ 1000000) (hs : sep.size ≤ 1000) (k : Nat) (hk : 1000 < k) : impl_joinNumbers.f k l sep = some (tx (Go.Lib.join (l.map Go.Lib.itoa) sep.data.toList)) := by
  have := joinNumbers_l0 l sep hl hb hs l.length k 0 (by omega) (by omega)
  rw [List.take_zero, List.map_nil, List.nil_append] at this
  unfold impl_joinNumbers.f
  rw [if_pos (by omega), if_pos (by omega), Int.toNat_natCast]
  exact this
def chaseTx (a l r d : Int) : ByteArray := tx (Go.Lib.itoa a ++ [45] ++ Go.Lib.itoa l ++ [45] ++ Go.Lib.itoa r ++ [45] ++ Go.Lib.itoa d)
theorem chase_join (a l r d : Int) : Go.Lib.join ([a, l, r, d].map Go.Lib.itoa) (⟨#[45]⟩ : ByteArray).data.toList = Go.Lib.itoa a ++ [45] ++ Go.Lib.itoa l ++ [45] ++ Go.Lib.itoa r ++ [45] ++ Go.Lib.itoa d := by
  rw [List.map_cons, Go.Lib.join_cons]
  simp [Go.Lib.joinTail]
theorem impl_ChaseText_yes (a l r d : Int) (h : isCh a l r d) (k : Nat) (hk : 1000000 < k) : impl_ChaseText.f k a l r d = some (chaseTx a l r d, true) := by
  have g := h
  unfold isCh at g
  unfold impl_ChaseText.f
  rw [impl_IsChase_yes a l r d h]
  simp only [Option.bind_some, if_true]
  rw [impl_joinNumbers_eq [a, l, r, d] _ (by simp) (by
    intro x hx
    simp only [List.mem_cons, List.not_mem_nil, or_false] at hx
    rcases hx with rfl | rfl | rfl | rfl <;> omega) (by show 1 ≤ 1000; omega) k (by omega), chase_join]
  rfl
theorem low_gcd (a b : Int) (hb : 0 < b) : Int.gcd (lowN a b) (lowD a b) = 1 := by
  unfold lowN lowD
  exact Int.gcd_ediv_gcd_ediv_gcd (Int.gcd_pos_of_ne_zero_right a (by omega))
theorem yLow_l0 (n : Nat) : ∀ (k : Nat) (a b : Int), 0 ≤ a → 0 ≤ b → b ≤ n → n < k → Int.gcd a b = 1 → laws_yLow.l0 k a b = some true := by
  have fin : ∀ (k : Nat) (a : Int), 0 ≤ a → Int.gcd a 0 = 1 → laws_yLow.l0 (k + 1) a 0 = some true := by
    intro k a ha e
    have hg : a = 1 := by rw [Int.gcd_zero_right] at e; omega
    subst hg
    simp only [laws_yLow.l0]
    rw [if_neg (by omega)]
    rfl
  induction n with
  | zero =>
    intro k a b ha hb hn hk e
    obtain ⟨k, rfl⟩ : ∃ m, k = m + 1 := ⟨k - 1, by omega⟩
    obtain rfl : b = 0 := by omega
    exact fin k a ha e
  | succ n ih =>
    intro k a b ha hb hn hk e
    obtain ⟨k, rfl⟩ : ∃ m, k = m + 1 := ⟨k - 1, by omega⟩
    by_cases h : b > 0
    · simp only [laws_yLow.l0]
      rw [if_pos h, if_neg (by omega)]
      have h1 : 0 ≤ a.tmod b := Int.tmod_nonneg b ha
      have h2 : a.tmod b < b := Int.tmod_lt_of_pos a h
      exact ih k b (a.tmod b) hb h1 (by omega) (by omega) ((gcd_step a b ha hb).trans e)
    · obtain rfl : b = 0 := by omega
      exact fin k a ha e
theorem yLow_low (a b : Int) (ha : 0 ≤ a) (hb : 0 < b) (k : Nat) (hk : b + 2 < k) : laws_yLow.f k (lowN a b) (lowD a b) = some true := by
  have r := lowD_range (a := a) hb
  have n := low_nonneg (a := a) (b := b) ha hb
  have g := low_gcd a b hb
  obtain ⟨k, rfl⟩ : ∃ m, k = m + 1 := ⟨k - 1, by omega⟩
  unfold laws_yLow.f
  rw [if_neg (by omega), if_neg (by omega)]
  simp only [laws_yLow.j0]
  exact yLow_l0 (lowD a b).toNat k _ _ n.1 (by omega) (by omega) (by omega) g
theorem join4 (a b c d : List UInt8) : (Go.Lib.join [a, b, c, d] [45]).length = a.length + b.length + c.length + d.length + 3 := by
  rw [Go.Lib.join_cons]
  simp [Go.Lib.joinTail]
  omega
theorem num_ge (p : List UInt8) : -1 ≤ num p := by
  unfold num
  split <;> omega
theorem num_range (p : List UInt8) : -1 ≤ num p ∧ num p < 1000000 := by
  by_cases h : 0 ≤ num p
  · have := num_yes p h
    omega
  · have := num_ge p
    omega
instance (a b c d : Int) : Decidable (isCh a b c d) := by unfold isCh; infer_instance
/-- the answer of both -/
def chOf (l : List UInt8) : Int × Int × Int × Int × Bool := match sp 45 l with
  | [a, b, c, d] => if isCh (num a) (num b) (num c) (num d) then (num a, num b, num c, num d, true) else (0, 0, 0, 0, false)
  | _ => (0, 0, 0, 0, false)
theorem chOf_no (l : List UInt8) (h : (sp 45 l).length ≠ 4) : chOf l = (0, 0, 0, 0, false) := by
  unfold chOf
  split
  · rename_i a b c d e
    rw [e] at h
    exact absurd rfl h
  · rfl
theorem chOf_yes (l : List UInt8) (a b c d : List UInt8) (h : sp 45 l = [a, b, c, d]) : chOf l = if isCh (num a) (num b) (num c) (num d) then (num a, num b, num c, num d, true) else (0, 0, 0, 0, false) := by
  unfold chOf
  rw [h]
theorem four {α : Type} (l : List α) (h : l.length = 4) : ∃ a b c d, l = [a, b, c, d] := by
  match l, h with
  | [a, b, c, d], _ => exact ⟨a, b, c, d, rfl⟩
theorem impl_ParseChase_eq (s : ByteArray) (hs : s.data.toList.length ≤ 1048576) (k : Nat) (hk : 1048590 < k) : impl_ParseChase.f k s = some (chOf s.data.toList) := by
  unfold impl_ParseChase.f
  rw [impl_readNumbers_eq s 45 hs k (by omega)]
  simp only [Option.bind_some]
  by_cases h2 : (readNs 45 s.data.toList).2 = true
  · obtain ⟨e1, e2⟩ := readNs_len 45 s.data.toList h2
    rw [if_pos h2, e1, List.length_map]
    by_cases h4 : (sp 45 s.data.toList).length = 4
    · obtain ⟨a, b, c, d, hq⟩ := four _ h4
      rw [chOf_yes _ a b c d hq, hq]
      rw [hq] at e2
      simp only [List.all_cons, List.all_nil, Bool.and_true, Bool.and_eq_true] at e2
      obtain ⟨oa, ob, oc, od⟩ := e2
      have r0 : rd ([a, b, c, d].map valN) 0 = valN a := rfl
      have r1 : rd ([a, b, c, d].map valN) 1 = valN b := rfl
      have r2 : rd ([a, b, c, d].map valN) 2 = valN c := rfl
      have r3 : rd ([a, b, c, d].map valN) 3 = valN d := rfl
      rw [r0, r1, r2, r3]
      simp only [List.length_cons, List.length_nil]
      rw [if_pos (by decide), if_pos (by decide), if_pos (by decide), if_pos (by decide), if_pos (by decide)]
      by_cases h : isCh (num a) (num b) (num c) (num d)
      · have g := h
        unfold isCh at g
        rw [(ok_of_num a (by omega)).2, (ok_of_num b (by omega)).2, (ok_of_num c (by omega)).2, (ok_of_num d (by omega)).2, impl_IsChase_yes _ _ _ _ h, if_pos h]
        rfl
      · have h' : ¬ isCh (valN a) (valN b) (valN c) (valN d) := by
          intro z
          have g := z
          unfold isCh at g
          rw [← num_of_ok a oa (by omega), ← num_of_ok b ob (by omega), ← num_of_ok c oc (by omega), ← num_of_ok d od (by omega)] at z
          exact h z
        rw [impl_IsChase_no _ _ _ _ h', if_neg h]
        rfl
    · rw [if_neg (by omega), chOf_no _ h4]
  · rw [if_neg h2]
    by_cases h4 : (sp 45 s.data.toList).length = 4
    · obtain ⟨a, b, c, d, hq⟩ := four _ h4
      rw [chOf_yes _ a b c d hq, if_neg]
      intro g
      unfold isCh at g
      refine h2 ?_
      unfold readNs
      rw [hq, if_pos]
      simp only [List.all_cons, List.all_nil, Bool.and_true, Bool.and_eq_true]
      exact ⟨(ok_of_num a (by omega)).1, (ok_of_num b (by omega)).1, (ok_of_num c (by omega)).1, (ok_of_num d (by omega)).1⟩
    · rw [chOf_no _ h4]
theorem itoa_short (x : Int) (hx : 0 ≤ x ∧ x < 1000000) : (Go.Lib.itoa x).length ≤ 6 := by
  obtain ⟨n, rfl⟩ := Int.eq_ofNat_of_zero_le hx.1
  rw [itoa_nat]
  exact dec_len6 n 6 (by omega) (by omega)
theorem chase_len (a l r d : Int) (h : isCh a l r d) : (chaseTx a l r d).data.toList.length ≤ 100 := by
  have g := h
  unfold isCh at g
  have h1 := itoa_short a (by omega)
  have h2 := itoa_short l (by omega)
  have h3 := itoa_short r (by omega)
  have h4 := itoa_short d (by omega)
  unfold chaseTx
  rw [tx_data]
  simp only [List.length_append, List.length_cons, List.length_nil]
  omega
theorem spec_doParse_eq (s : ByteArray) (hs : s.data.toList.length ≤ 1048576) (k : Nat) (hk : 1048590 < k) : spec_doParse.f k s = some (chOf s.data.toList) := by
  have hz : s.size = s.data.toList.length := by rw [Array.length_toList]; rfl
  have e1 := spec_l1Split_eq s 45 hs k (by omega)
  have e45 : ((45 : UInt8).toNat : Int) = 45 := rfl
  rw [e45] at e1
  obtain ⟨k, rfl⟩ : ∃ m, k = m + 1 := ⟨k - 1, by omega⟩
  unfold spec_doParse.f
  rw [e1]
  simp only [Option.bind_some, spec_doParse.j0, List.length_map]
  rw [hz]
  by_cases h4 : (sp 45 s.data.toList).length = 4
  · obtain ⟨a, b, c, d, hq⟩ := four _ h4
    have hj := join_sp 45 s.data.toList
    rw [hq] at hj
    have hlen := join4 a b c d
    rw [hj] at hlen
    rw [chOf_yes _ a b c d hq, hq]
    have ra := num_range a
    have rb := num_range b
    have rc := num_range c
    have rd' := num_range d
    by_cases h : isCh (num a) (num b) (num c) (num d)
    · have g := h
      unfold isCh at g
      have la := piece_len a 4 (by omega) (by omega)
      have lb := piece_len b 2 (by omega) (by omega)
      have lc := piece_len c 2 (by omega) (by omega)
      have ld := piece_len d 2 (by omega) (by omega)
      rw [if_neg (show ¬ ((s.data.toList.length : Int) > 16) by omega), if_pos h]
      have r0 : rdOf ByteArray.empty ([a, b, c, d].map tx) 0 = tx a := rfl
      have r1 : rdOf ByteArray.empty ([a, b, c, d].map tx) 1 = tx b := rfl
      have r2 : rdOf ByteArray.empty ([a, b, c, d].map tx) 2 = tx c := rfl
      have r3 : rdOf ByteArray.empty ([a, b, c, d].map tx) 3 = tx d := rfl
      rw [r0, r1, r2, r3, spec_l1Read_eq _ k (by omega), spec_l1Read_eq _ k (by omega), spec_l1Read_eq _ k (by omega), spec_l1Read_eq _ k (by omega), tx_data, tx_data, tx_data, tx_data]
      simp only [Option.bind_some, spec_doGood_yes _ _ _ _ h]
      rfl
    · rw [if_neg h]
      have r0 : rdOf ByteArray.empty ([a, b, c, d].map tx) 0 = tx a := rfl
      have r1 : rdOf ByteArray.empty ([a, b, c, d].map tx) 1 = tx b := rfl
      have r2 : rdOf ByteArray.empty ([a, b, c, d].map tx) 2 = tx c := rfl
      have r3 : rdOf ByteArray.empty ([a, b, c, d].map tx) 3 = tx d := rfl
      rw [r0, r1, r2, r3, spec_l1Read_eq _ k (by omega), spec_l1Read_eq _ k (by omega), spec_l1Read_eq _ k (by omega), spec_l1Read_eq _ k (by omega), tx_data, tx_data, tx_data, tx_data]
      simp only [Option.bind_some, spec_doGood_no _ _ _ _ (show -9223372036854775808 ≤ num d ∧ num d ≤ 9223372036854775807 by omega) h]
      split <;> rfl
  · rw [chOf_no _ h4]
    have : (((sp 45 s.data.toList).length : Int) != 4) = true := by
      rw [bne_iff_ne]
      omega
    rw [this]
    split <;> rfl
theorem fst_stop (c : Nat → Bool) (d : Nat) : ∀ x, fst c d x < x + d → c (fst c d x) = false := by
  induction d with
  | zero =>
    intro x h
    unfold fst at h
    omega
  | succ d ih =>
    intro x h
    unfold fst at h ⊢
    by_cases z : c x = true
    · rw [if_pos z] at h ⊢
      exact ih (x + 1) (by omega)
    · rw [if_neg z]
      cases hh : c x with
      | false => rfl
      | true => exact absurd hh z
theorem fst_below (c : Nat → Bool) (d : Nat) : ∀ x y, x ≤ y → y < fst c d x → c y = true := by
  induction d with
  | zero =>
    intro x y h1 h2
    unfold fst at h2
    omega
  | succ d ih =>
    intro x y h1 h2
    unfold fst at h2
    by_cases z : c x = true
    · rw [if_pos z] at h2
      by_cases q : x = y
      · subst q
        exact z
      · exact ih (x + 1) y (by omega) h2
    · rw [if_neg z] at h2
      omega
/-- the dog, a turn behind it: not to the left of the left walker, nor to the right of the right one -/
theorem between_even (a l r d T O n e : Int) (hl : l ≤ d) (hD : 0 ≤ n * O - T * e) (hN : n * (O * (d + r)) < (T * (d + r) + (a * O - (l + r) * T)) * e) :
    l * n * O ≤ l * T * e + d * (n * O - T * e) ∧ l * T * e + d * (n * O - T * e) ≤ (a * e - r * n) * O := by
  have m := Int.mul_nonneg (show 0 ≤ d - l by omega) hD
  have e1 : l * T * e + d * (n * O - T * e) = l * n * O + (d - l) * (n * O - T * e) := by grind
  have e2 : (a * e - r * n) * O - (l * T * e + d * (n * O - T * e)) = (T * (d + r) + (a * O - (l + r) * T)) * e - n * (O * (d + r)) := by grind
  constructor <;> omega
theorem between_odd (a l r d T O n e : Int) (hr : r ≤ d) (hD : 0 ≤ n * O - T * e) (hN : n * (O * (d + l)) < (T * (d + l) + (a * O - (l + r) * T)) * e) :
    l * n * O ≤ (a * O - r * T) * e + -d * (n * O - T * e) ∧ (a * O - r * T) * e + -d * (n * O - T * e) ≤ (a * e - r * n) * O := by
  have m := Int.mul_nonneg (show 0 ≤ d - r by omega) hD
  have e1 : (a * e - r * n) * O = (a * O - r * T) * e + -d * (n * O - T * e) + (d - r) * (n * O - T * e) := by grind
  have e2 : (a * O - r * T) * e + -d * (n * O - T * e) - l * n * O = (T * (d + l) + (a * O - (l + r) * T)) * e - n * (O * (d + l)) := by grind
  constructor <;> omega
/-- in lowest terms -/
theorem between_low {l n O X a e r : Int} (hO : 0 < O) (he : 0 < e) (h1 : l * n * O ≤ X) (h2 : X ≤ (a * e - r * n) * O) :
    l * n * lowD X (O * e) ≤ lowN X (O * e) * e ∧ lowN X (O * e) * e ≤ (a * e - r * n) * lowD X (O * e) := by
  have hY : 0 < O * e := Int.mul_pos hO he
  have cc := low_cross X (O * e)
  have hb := (lowD_range (a := X) (b := O * e) hY).1
  generalize lowN X (O * e) = p at *
  generalize lowD X (O * e) = q at *
  have e3 : p * e * O = X * q := by rw [← cc]; grind
  constructor
  · have := Int.mul_le_mul_of_nonneg_right h1 (show 0 ≤ q by omega)
    refine Int.le_of_mul_le_mul_right (a := O) ?_ hO
    rw [e3]
    have e4 : l * n * q * O = l * n * O * q := by grind
    rw [e4]
    exact this
  · have := Int.mul_le_mul_of_nonneg_right h2 (show 0 ≤ q by omega)
    refine Int.le_of_mul_le_mul_right (a := O) ?_ hO
    rw [e3]
    have e4 : (a * e - r * n) * q * O = (a * e - r * n) * O * q := by grind
    rw [e4]
    exact this
/-- the place as a fraction, not yet in lowest terms -/
def plX (a l r d n e : Int) (m : Nat) : Int := apP a l r d m * e + (if m % 2 = 0 then d else -d) * (n * apO l r d m - apT a l r d m * e)
def plM (a l r d n e : Int) : Nat := fst (upT a l r d n e) 7 0
theorem plM_spec {a l r d : Int} (h : isCh a l r d) (n e : Int) (hn : 0 ≤ n) : plM a l r d n e ≤ 7 ∧ 0 ≤ n * apO l r d (plM a l r d n e) - apT a l r d (plM a l r d n e) * e ∧
    (plM a l r d n e < 7 → n * apO l r d (plM a l r d n e + 1) < apT a l r d (plM a l r d n e + 1) * e) := by
  have z := fst_le (upT a l r d n e) 7 0
  refine ⟨by unfold plM; omega, ?_, ?_⟩
  · cases hm : plM a l r d n e with
    | zero =>
      have : apT a l r d 0 = 0 := rfl
      have o : apO l r d 0 = 1 := rfl
      rw [this, o]
      omega
    | succ m =>
      have := fst_below (upT a l r d n e) 7 0 m (by omega) (by unfold plM at hm; omega)
      unfold upT at this
      rw [decide_eq_true_eq] at this
      omega
  · intro h7
    have := fst_stop (upT a l r d n e) 7 0 (by unfold plM at h7; omega)
    unfold plM
    unfold upT at this ⊢
    rw [decide_eq_false_iff_not] at this
    omega
theorem plX_between {a l r d : Int} (h : isCh a l r d) (n e : Int) (hn : 0 ≤ n) (h7 : plM a l r d n e < 7) :
    l * n * apO l r d (plM a l r d n e) ≤ plX a l r d n e (plM a l r d n e) ∧ plX a l r d n e (plM a l r d n e) ≤ (a * e - r * n) * apO l r d (plM a l r d n e) := by
  obtain ⟨_, hD, hN⟩ := plM_spec h n e hn
  have hN := hN h7
  generalize plM a l r d n e = m at *
  have g := h
  unfold isCh at g
  have i := apT_inv (a := a) (l := l) (r := r) (d := d) m
  have ep := apP_eq (a := a) (l := l) (r := r) (d := d) m
  have eA : apA a l r d m = a * apO l r d m - (l + r) * apT a l r d m := by omega
  simp only [apT, apO] at hN
  rw [eA] at hN
  unfold plX
  by_cases q : m % 2 = 0
  · have eb : both l r d m = d + r := by unfold both; rw [if_pos q]
    rw [eb] at hN
    rw [ep, if_pos q, if_pos q]
    exact between_even a l r d _ _ n e (by omega) hD hN
  · have eb : both l r d m = d + l := by unfold both; rw [if_neg q]
    rw [eb] at hN
    rw [ep, if_neg q, if_neg q]
    exact between_odd a l r d _ _ n e (by omega) hD hN
/-- where the dog is: both functions' answer -/
def plV (a l r d n e : Int) : Int × Int × Bool :=
  if n * (l + r) = a * e then (lowN (l * n) e, lowD (l * n) e, true)
  else if plM a l r d n e > 6 then (0, 0, false)
  else (lowN (plX a l r d n e (plM a l r d n e)) (apO l r d (plM a l r d n e) * e), lowD (plX a l r d n e (plM a l r d n e)) (apO l r d (plM a l r d n e) * e), true)
theorem plV_fits {a l r d : Int} (h : isCh a l r d) (n e : Int) (t : isTime a l r n e) (p q : Int) (hv : plV a l r d n e = (p, q, true)) :
    ∃ X Y : Int, 0 ≤ X ∧ 0 < Y ∧ Y ≤ 409600000000 ∧ p = lowN X Y ∧ q = lowD X Y ∧ 1 ≤ q ∧ q ≤ 409600000000 ∧ 0 ≤ p ∧ p ≤ 409600000000000 ∧ l * n * q ≤ p * e ∧ p * e ≤ (a * e - r * n) * q := by
  have g := h
  unfold isCh at g
  obtain ⟨hn, he, hle⟩ := t
  have key : ∀ X O : Int, 0 < O → O * e ≤ 409600000000 → l * n * O ≤ X → X ≤ (a * e - r * n) * O → p = lowN X (O * e) → q = lowD X (O * e) →
      ∃ X Y : Int, 0 ≤ X ∧ 0 < Y ∧ Y ≤ 409600000000 ∧ p = lowN X Y ∧ q = lowD X Y ∧ 1 ≤ q ∧ q ≤ 409600000000 ∧ 0 ≤ p ∧ p ≤ 409600000000000 ∧ l * n * q ≤ p * e ∧ p * e ≤ (a * e - r * n) * q := by
    intro X O hO hY h1 h2 ep eq
    have y0 : 0 < O * e := Int.mul_pos hO (by omega)
    have ln : 0 ≤ l * n := Int.mul_nonneg (by omega) (by omega)
    have x0 : 0 ≤ X := Int.le_trans (Int.mul_nonneg ln (by omega)) h1
    have b := between_low hO (by omega) h1 h2
    have c1 := low_nonneg (a := X) (b := O * e) x0 y0
    have c2 := lowD_range (a := X) (b := O * e) y0
    rw [← ep, ← eq] at b
    rw [← ep] at c1
    rw [← eq] at c2
    refine ⟨X, O * e, x0, y0, hY, ep, eq, c2.1, by omega, c1.1, ?_, b.1, b.2⟩
    -- the place is not farther than the whole way
    have m1 := bm (A := 1000) (B := 100) (a := a) (b := e) (by omega) (by omega)
    have rn : 0 ≤ r * n := Int.mul_nonneg (by omega) (by omega)
    have s1 : p * e ≤ a * e * q := Int.le_trans b.2 (Int.mul_le_mul_of_nonneg_right (by omega) (by omega))
    have s2 : a * e * q = a * q * e := by grind
    rw [s2] at s1
    have s3 := Int.le_of_mul_le_mul_right s1 (show 0 < e by omega)
    have s4 := bm (A := 1000) (B := 409600000000) (a := a) (b := q) (by omega) (by omega)
    omega
  unfold plV at hv
  by_cases q1 : n * (l + r) = a * e
  · rw [if_pos q1] at hv
    injection hv with v1 v2
    injection v2 with v2 _
    have e1 : a * e - r * n = l * n := by rw [← q1]; grind
    exact key (l * n) 1 (by omega) (by omega) (by omega) (by rw [e1]; omega) (by rw [Int.one_mul]; exact v1.symm) (by rw [Int.one_mul]; exact v2.symm)
  · rw [if_neg q1] at hv
    by_cases q2 : plM a l r d n e > 6
    · rw [if_pos q2] at hv
      injection hv with _ v2
      injection v2 with _ v3
      cases v3
    · rw [if_neg q2] at hv
      injection hv with v1 v2
      injection v2 with v2 _
      have b := plX_between h n e hn.1 (by omega)
      have o1 := apO_pos h (plM a l r d n e)
      have o2 : apO l r d (plM a l r d n e) ≤ 4096000000 := by
        have q := apO_le h
        generalize plM a l r d n e = m at *
        obtain rfl | rfl | rfl | rfl | rfl | rfl | rfl : m = 0 ∨ m = 1 ∨ m = 2 ∨ m = 3 ∨ m = 4 ∨ m = 5 ∨ m = 6 := by omega
        all_goals omega
      have m3 := bm (A := 4096000000) (B := 100) (a := apO l r d (plM a l r d n e)) (b := e) (by omega) (by omega)
      exact key _ _ (by omega) (by omega) b.1 b.2 v1.symm v2.symm
/-- turns that are told by a time are not later than it, the next one is -/
theorem turn_at {a l r d : Int} (h : isCh a l r d) (n e : Int) (hn : 0 ≤ n) (m : Nat) (hm : plM a l r d n e = m) (h1 : 1 ≤ m) :
    lowN (apT a l r d m) (apO l r d m) * e ≤ n * lowD (apT a l r d m) (apO l r d m) := by
  have o1 := apO_pos h m
  have z := low_test (apT a l r d m) (apO l r d m) n e (by omega)
  have := (plM_spec h n e hn).2.1
  rw [hm] at this
  rcases Int.lt_or_le (n * lowD (apT a l r d m) (apO l r d m)) (lowN (apT a l r d m) (apO l r d m) * e) with q | q
  · have := z.mp q
    omega
  · exact q
theorem turn_behind {a l r d : Int} (h : isCh a l r d) (n e : Int) (hn : 0 ≤ n) (m : Nat) (hm : plM a l r d n e = m) (h7 : m < 7) :
    n * lowD (apT a l r d (m + 1)) (apO l r d (m + 1)) < lowN (apT a l r d (m + 1)) (apO l r d (m + 1)) * e := by
  have o1 := apO_pos h (m + 1)
  have z := low_test (apT a l r d (m + 1)) (apO l r d (m + 1)) n e (by omega)
  have := (plM_spec h n e hn).2.2 (by omega)
  rw [hm] at this
  exact z.mpr (by omega)
/-- leaps: a quotient rounded up -/
theorem leaps_up (N g : Int) (hN : 1 ≤ N) (hg : 1 ≤ g) : 1 ≤ (N + g - 1).tdiv g ∧ (N + g - 1).tdiv g ≤ N ∧ N ≤ (N + g - 1).tdiv g * g ∧ ((N + g - 1).tdiv g - 1) * g < N := by
  have e0 : (N + g - 1).tdiv g = (N + g - 1) / g := Int.tdiv_eq_ediv_of_nonneg (by omega)
  rw [e0]
  have e1 := Int.mul_ediv_add_emod (N + g - 1) g
  have e2 := Int.emod_nonneg (N + g - 1) (show g ≠ 0 by omega)
  have e3 := Int.emod_lt_of_pos (N + g - 1) (show 0 < g by omega)
  generalize (N + g - 1) / g = x at *
  generalize (N + g - 1) % g = y at *
  have c : g * x = x * g := Int.mul_comm _ _
  have s : (x - 1) * g = x * g - g := by rw [Int.sub_mul, Int.one_mul]
  have x1 : 1 ≤ x := by
    rcases Int.lt_or_le x 1 with z | z
    · have := Int.mul_le_mul_of_nonneg_right (show x ≤ 0 by omega) (show 0 ≤ g by omega)
      omega
    · exact z
  have x2 : x ≤ N := by
    have := Int.mul_le_mul_of_nonneg_left (show 1 ≤ g by omega) (show 0 ≤ x - 1 by omega)
    omega
  exact ⟨x1, x2, by omega, by omega⟩
theorem place_val (a l r d n e : Int) (h : isCh a l r d) (ht : isTime a l r n e) (k : Nat) (hk : (1000000000000000300 : Int) < k) : spec_DogPlace.f (k + 1) a l r d n e = some (plV a l r d n e) ∧ impl_DogPlace.f k a l r d n e = some (plV a l r d n e) := by
  have g := h
  unfold isCh at g
  obtain ⟨hn, he, hle⟩ := ht
  have hd : 0 ≤ d ∧ d ≤ 20 := by omega
  have hl : 0 ≤ l ∧ l ≤ 20 := by omega
  have hr : 0 ≤ r ∧ r ≤ 20 := by omega
  have ha : 0 ≤ a ∧ a ≤ 1000 := by omega
  have he0 : 0 ≤ e ∧ e ≤ 100 := by omega
  have hlr : 0 ≤ l + r ∧ l + r ≤ 40 := by omega
  have x1 := bm hn hlr
  have x2 := bm ha he0
  have w1 : wrap64 (l + r) = l + r := w64b hlr (by decide)
  have w2 : wrap64 (n * (l + r)) = n * (l + r) := w64b x1 (by decide)
  have w3 : wrap64 (a * e) = a * e := w64b x2 (by decide)
  have s0 : spec_DogPlace.f (k + 1) a l r d n e = spec_DogPlace.j0 (k + 1) n e false a l r d := by
    simp only [spec_DogPlace.f, spec_doGood_yes a l r d h, spec_doTime_eq a l r d n e h, Option.bind_some, decide_eq_true (show isTime a l r n e from ⟨hn, he, hle⟩), if_true, Bool.not_true]
  rw [s0]
  simp only [spec_DogPlace.j0, impl_DogPlace.f, impl_isChaseTime_eq a l r d n e h, Option.bind_some, decide_eq_true (show isTime a l r n e from ⟨hn, he, hle⟩), if_true, Bool.false_eq_true, if_false]
  rw [w1, w2, w3]
  by_cases q : n * (l + r) = a * e
  · have p1 := bm ha hl
    have p2 := bm ha hr
    have p3 := bm hl hn
    have key := low_eq (a := a * l) (b := l + r) (c := l * n) (d := e) (by omega) (by omega) (by
      have : l * n * (l + r) = l * (n * (l + r)) := Int.mul_assoc _ _ _
      rw [this, q]
      grind)
    have ev : plV a l r d n e = (lowN (l * n) e, lowD (l * n) e, true) := by unfold plV; rw [if_pos q]
    rw [ev]
    refine ⟨?_, ?_⟩
    · rw [if_pos q]
      simp only [spec_DistanceOf.f, spec_doGood_yes a l r d h, Option.bind_some, if_true]
      rw [w1, w64b p1 (by decide), w64b p2 (by decide), spec_meLow_eq _ _ _ (by omega) (by omega) (by omega) (by omega)]
      simp only [Option.bind_some]
      rw [spec_meLow_eq _ _ _ (by omega) (by omega) (by omega) (by omega), key.1, key.2]
      rfl
    · rw [if_pos q, w64b p3 (by decide), impl_lowest_eq _ _ _ (by omega) (by omega) (by omega) (by omega)]
      rfl
  · rw [if_neg q, if_neg q, spec_doBefore_eq a l r d n e h hn he k (by omega), impl_turnsUntil_eq a l r d n e h hn he k (by omega)]
    simp only [Option.bind_some]
    have ev : plV a l r d n e = if plM a l r d n e > 6 then (0, 0, false) else (lowN (plX a l r d n e (plM a l r d n e)) (apO l r d (plM a l r d n e) * e), lowD (plX a l r d n e (plM a l r d n e)) (apO l r d (plM a l r d n e) * e), true) := by unfold plV; rw [if_neg q]
    rw [ev]
    clear ev
    have em : fst (upT a l r d n e) 7 0 = plM a l r d n e := rfl
    rw [em]
    generalize plM a l r d n e = m
    by_cases z : (m : Int) > 6
    · rw [if_pos z, if_pos z, if_pos (by omega)]
      exact ⟨rfl, rfl⟩
    · rw [if_neg (show ¬ m > 6 by omega), if_neg z, if_neg z, spec_doRun_eq a l r d h m (by omega) k (by omega), impl_turnTime_eq a l r d h m (by omega) k (by omega)]
      simp only [Option.bind_some]
      rw [if_pos (Int.natCast_nonneg m), if_pos (by simp only [List.length_map, List.length_range]; omega), rd_st a l r d m m (Nat.le_refl m)]
      simp only [stAt, plX]
      have o1 := apO_pos h m
      have o2 := apO_le6 h m (by omega)
      have t1 := apT_nonneg h m
      have t2 := apT_le h m
      have p1 := apP_range h m
      have pe := apP_eq (a := a) (l := l) (r := r) (d := d) m
      have hT : 0 ≤ apT a l r d m ∧ apT a l r d m ≤ 4096000000000 := ⟨t1, by omega⟩
      have hO : 0 ≤ apO l r d m ∧ apO l r d m ≤ 4096000000 := ⟨by omega, o2⟩
      have hP : 0 ≤ apP a l r d m ∧ apP a l r d m ≤ 4096000000000 := ⟨p1.1, by omega⟩
      have c1 := low_nonneg (a := apT a l r d m) (b := apO l r d m) t1 (by omega)
      have c2 := lowD_range (a := apT a l r d m) (b := apO l r d m) (by omega)
      have cc := low_cross (apT a l r d m) (apO l r d m)
      have ht' : 0 ≤ lowN (apT a l r d m) (apO l r d m) ∧ lowN (apT a l r d m) (apO l r d m) ≤ 4096000000000 := ⟨c1.1, by omega⟩
      have hb' : 0 ≤ lowD (apT a l r d m) (apO l r d m) ∧ lowD (apT a l r d m) (apO l r d m) ≤ 4096000000 := ⟨by omega, by omega⟩
      have bpos : 0 < lowD (apT a l r d m) (apO l r d m) := by omega
      have opos : 0 < apO l r d m := by omega
      have po := par_odd m
      clear t1 t2 p1 c1 c2 o1 o2 x1 x2 hle
      generalize lowN (apT a l r d m) (apO l r d m) = t at *
      generalize lowD (apT a l r d m) (apO l r d m) = b at *
      generalize apT a l r d m = T at *
      generalize apO l r d m = O at *
      generalize apP a l r d m = P at *
      obtain ⟨y1, y2, y3, y4, y5, y6, y7, y8, y9, y10, y11⟩ := place_wraps (l := l) (r := r) (a := a) (t := t) (b := b) hT hO hP hn he0 hd
      obtain ⟨v1, v2, v3, v4, v5, v6, v7, v8, v9, v10, v11, v12, v13, v14, v15, v16⟩ := impl_wraps ht' hb' hn he0 hd hl hr ha
      have oe : 0 < O * e := Int.mul_pos opos (by omega)
      have be : 0 < b * e := Int.mul_pos bpos (by omega)
      have oe2 := (bm hO he0).2
      have be2 := (bm hb' he0).2
      have wd : wrap64 (-d) = -d := w64 (by omega)
      by_cases odd : Int.tmod (m : Int) 2 = 1
      · rw [if_neg (po.mp odd)] at pe
        rw [if_neg (po.mp odd), if_pos odd, if_pos odd, wd, y1, y2, y3, y4, y6, y8, y9, v1, v2, v3, v4, v5, v6, v7, v8, v9, v10, v14]
        rw [spec_meLow_eq _ _ _ oe (by omega) (by omega) (by omega), impl_lowest_eq _ _ _ be (by omega) (by omega) (by omega)]
        have key := low_eq (a := P * e + -d * (n * O - T * e)) (b := O * e) (c := a * b * e - r * t * e - d * (n * b - t * e)) (d := b * e) oe be (by
          rw [pe]
          exact id_odd T O t b a r n e d cc)
        rw [key.1, key.2]
        exact ⟨rfl, rfl⟩
      · have ev2 : m % 2 = 0 := by
          by_cases q2 : m % 2 = 0
          · exact q2
          · exact absurd (po.mpr q2) odd
        rw [if_pos ev2] at pe
        rw [if_pos ev2, if_neg odd, if_neg odd, y1, y2, y3, y4, y5, y7, y9, v11, v12, v6, v7, v8, v9, v13, v14]
        rw [spec_meLow_eq _ _ _ oe (by omega) (by omega) (by omega), impl_lowest_eq _ _ _ be (by omega) (by omega) (by omega)]
        have key := low_eq (a := P * e + d * (n * O - T * e)) (b := O * e) (c := l * t * e + d * (n * b - t * e)) (d := b * e) oe be (by
          rw [pe]
          exact id_even T O t b l n e d cc)
        rw [key.1, key.2]
        exact ⟨rfl, rfl⟩
/-- the least dog: what is so of it -/
theorem slow_l0 (a l r d n e : Int) (ha : 0 ≤ a ∧ a ≤ 1000) (he : 0 ≤ e ∧ e ≤ 100) (hn : 0 ≤ n ∧ n ≤ 1000) (hr : 0 ≤ r ∧ r ≤ 20) (q : Nat) : ∀ (k : Nat) (x v : Int), 0 ≤ x → x ≤ 30 → 21 - x ≤ q → q < k → impl_SlowestDog.l0 k n e x a l r d = some (v, true) →
    x ≤ v ∧ v ≤ 20 ∧ a * e ≤ n * (v + r) ∧ (x < v → n * (v - 1 + r) < a * e) := by
  induction q with
  | zero =>
    intro k x v h0 h1 hq hk h
    obtain ⟨k, rfl⟩ : ∃ m, k = m + 1 := ⟨k - 1, by omega⟩
    simp only [impl_SlowestDog.l0] at h
    rw [if_neg (by omega)] at h
    injection h with h
    injection h with _ h
    cases h
  | succ q ih =>
    intro k x v h0 h1 hq hk h
    obtain ⟨k, rfl⟩ : ∃ m, k = m + 1 := ⟨k - 1, by omega⟩
    simp only [impl_SlowestDog.l0] at h
    by_cases h2 : x ≤ 20
    · have m1 := bm ha he
      have m2 := bm (A := 1000) (B := 60) (a := n) (b := x + r) hn (by omega)
      rw [if_pos h2, w64b m1 (by decide), w64 (x := x + r) (by omega), w64b m2 (by decide)] at h
      by_cases h3 : a * e ≤ n * (x + r)
      · rw [if_pos h3] at h
        injection h with h
        injection h with h _
        subst h
        exact ⟨Int.le_refl _, h2, h3, fun z => absurd z (Int.lt_irrefl _)⟩
      · rw [if_neg h3, w64 (x := x + 1) (by omega)] at h
        obtain ⟨z1, z2, z3, z4⟩ := ih k (x + 1) v (by omega) (by omega) (by omega) (by omega) h
        refine ⟨by omega, z2, z3, fun _ => ?_⟩
        by_cases z : x + 1 = v
        · subst z
          have : x + 1 - 1 + r = x + r := by omega
          rw [this]
          omega
        · exact z4 (by omega)
    · rw [if_neg h2] at h
      injection h with h
      injection h with _ h
      cases h
theorem slow_facts (k : Nat) (hk : 50 < k) (a l r d n e v : Int) (hf : impl_SlowestDog.f k a l r d n e = some (v, true)) :
    isCh a l r d ∧ isTime a l r n e ∧ l < v ∧ r < v ∧ v ≤ 20 ∧ a * e ≤ n * (v + r) ∧ (l < v - 1 → r < v - 1 → n * (v - 1 + r) < a * e) := by
  by_cases h : isCh a l r d
  · have g := h
    unfold isCh at g
    by_cases t : isTime a l r n e
    · have em : mx l r = if l > r then l else r := by
        unfold mx
        split <;> split <;> omega
      simp only [impl_SlowestDog.f, impl_isChaseTime_eq a l r d n e h, Option.bind_some, t, decide_true, if_true] at hf
      rw [em, w64 (by split <;> omega)] at hf
      obtain ⟨z1, z2, z3, z4⟩ := slow_l0 a l r d n e (by omega) ⟨by have := t.2.1.1; omega, t.2.1.2⟩ t.1 (by omega) 21 k _ v (by split <;> omega) (by split <;> omega) (by split <;> omega) (by omega) hf
      refine ⟨h, t, ?_, ?_, z2, z3, fun y1 y2 => z4 ?_⟩
      · split at z1 <;> omega
      · split at z1 <;> omega
      · split <;> omega
    · simp [impl_SlowestDog.f, impl_isChaseTime_eq a l r d n e h, t] at hf
  · simp [impl_SlowestDog.f, impl_isChaseTime_no a l r d n e h] at hf
def bytes (c : List Int) : Prop := ∀ x ∈ c, (Lit.int .u8 x).wf = true
theorem byte_range {x : Int} (h : (Lit.int .u8 x).wf = true) : 0 ≤ x ∧ x ≤ 255 := by
  simp [Lit.wf, IntKind.min, IntKind.max, IntKind.bits, IntKind.signed] at h
  omega
theorem rd_byte (c : List Int) (hc : bytes c) (i : Int) (h0 : 0 ≤ i) (h1 : i < (c.length : Int)) : 0 ≤ rd c i ∧ rd c i ≤ 255 := by
  have hlt : i.toNat < c.length := by omega
  have e : rd c i = c[i.toNat] := by simp [rd, hlt]
  rw [e]
  exact byte_range (hc _ (List.getElem_mem hlt))
theorem bits_255 (x : Int) : 0 ≤ Go.bits .and .u64 x 255 ∧ Go.bits .and .u64 x 255 ≤ 255 := by
  have h : (BitVec.ofInt 64 x &&& 255#64).toNat ≤ 255 := by
    rw [BitVec.toNat_and]
    exact Nat.and_le_right
  have e : Go.bits .and .u64 x 255 = IntKind.u64.wrap ((BitVec.ofInt 64 x &&& 255#64).toNat : Int) := rfl
  rw [e]
  generalize (BitVec.ofInt 64 x &&& 255#64).toNat = n at *
  have e2 : IntKind.u64.wrap (n : Int) = (n : Int) := by
    simp [IntKind.wrap, IntKind.bits, IntKind.signed]
    omega
  rw [e2]
  omega
theorem next_ok (c : List Int) (hc : bytes c) (a s : Int) (ha : 0 ≤ a ∧ a ≤ 4000000000000000000) : ∃ r s', spec_l1Cur_next.f c a s = some (r, a + 1, s') ∧ 0 ≤ r ∧ r ≤ 255 := by
  have ew : wrap64 (a + 1) = a + 1 := w64 (by omega)
  unfold spec_l1Cur_next.f
  rw [ew]
  by_cases h : a < (c.length : Int)
  · have rb := rd_byte c hc a ha.1 h
    have er : wrap64 (rd c a) = rd c a := w64 (by omega)
    rw [if_pos h, if_pos ha.1, if_pos (by omega), er]
    exact ⟨_, _, rfl, rb.1, rb.2⟩
  · rw [if_neg h, if_neg (by omega)]
    have b := bits_255 ((IntKind.u64.wrap ((IntKind.u64.wrap ((IntKind.u64.wrap (s * 6364136223846793005)) + 0)) + 1442695040888963407)) / 1099511627776)
    refine ⟨_, _, rfl, ?_⟩
    rw [w64 (by omega)]
    exact b
theorem pick_ok (c : List Int) (hc : bytes c) (a s n : Int) (ha : 0 ≤ a ∧ a ≤ 4000000000000000000 - 2) : ∃ r a' s', spec_l1Cur_pick.f c a s n = some (r, a', s') ∧ 0 ≤ r ∧ (1 ≤ n → r < n) ∧ r ≤ 65535 ∧ a ≤ a' ∧ a' ≤ a + 2 := by
  unfold spec_l1Cur_pick.f
  by_cases h : n ≤ 1
  · rw [if_pos h]
    exact ⟨_, _, _, rfl, by omega, by omega, by omega, by omega, by omega⟩
  · rw [if_neg h]
    obtain ⟨r, s', e, r0, r1⟩ := next_ok c hc a s (by omega)
    rw [e]
    simp only [Option.bind_some]
    by_cases h2 : n > 200
    · rw [if_pos h2]
      obtain ⟨q, s2, e2, q0, q1⟩ := next_ok c hc (a + 1) s' (by omega)
      rw [e2]
      simp only [Option.bind_some]
      rw [if_neg (by omega), w64 (x := r * 256) (by omega), w64 (x := r * 256 + q) (by omega), Int.tmod_eq_emod_of_nonneg (by omega)]
      have := Int.emod_nonneg (r * 256 + q) (show n ≠ 0 by omega)
      have := Int.emod_lt_of_pos (r * 256 + q) (show 0 < n by omega)
      have e3 := Int.emod_def (r * 256 + q) n
      have e4 := Int.mul_nonneg (show 0 ≤ n by omega) (Int.ediv_nonneg (show 0 ≤ r * 256 + q by omega) (show 0 ≤ n by omega))
      exact ⟨_, _, _, rfl, by omega, by omega, by omega, by omega, by omega⟩
    · rw [if_neg h2, if_neg (by omega), Int.tmod_eq_emod_of_nonneg (by omega)]
      have := Int.emod_nonneg r (show n ≠ 0 by omega)
      have := Int.emod_lt_of_pos r (show 0 < n by omega)
      exact ⟨_, _, _, rfl, by omega, by omega, by omega, by omega, by omega⟩
theorem among_ok (c : List Int) (hc : bytes c) (a s : Int) (l : List Int) (hl : 1 ≤ l.length ∧ l.length ≤ 1000000) (ha : 0 ≤ a ∧ a ≤ 4000000000000000000 - 2) : ∃ r a' s', spec_l1Cur_among.f c a s l = some (r, a', s') ∧ r ∈ l ∧ a ≤ a' ∧ a' ≤ a + 2 := by
  obtain ⟨r, a', s', e, r0, r1, _, h⟩ := pick_ok c hc a s (l.length : Int) ha
  have r2 := r1 (by omega)
  have hlt : r.toNat < l.length := by omega
  have er : rd l r = l[r.toNat] := by simp [rd, hlt]
  unfold spec_l1Cur_among.f
  rw [e]
  simp only [Option.bind_some]
  rw [if_pos r0, if_pos r2, er]
  exact ⟨_, _, _, rfl, List.getElem_mem hlt, h⟩
theorem wrap_range (x : Int) : -9223372036854775808 ≤ wrap64 x ∧ wrap64 x ≤ 9223372036854775807 := by unfold wrap64; omega
theorem sureChase_ok (c : List Int) (hc : bytes c) (a s : Int) (ha : 0 ≤ a ∧ a ≤ 4000000000000000000 - 8) : ∃ A L R D a' s', spec_l1Cur_sureChase.f c a s = some (A, L, R, D, a', s') ∧ (0 ≤ L ∧ L ≤ 100000) ∧ (-9223372036854775808 ≤ D ∧ D ≤ 9223372036854775807) ∧ a ≤ a' ∧ a' ≤ a + 8 := by
  obtain ⟨r1, a1, s1, e1, _, _, _, h1⟩ := pick_ok c hc a s 60 (by omega)
  obtain ⟨r2, a2, s2, e2, p2, _, q2, h2⟩ := pick_ok c hc a1 s1 5 (by omega)
  obtain ⟨r3, a3, s3, e3, p3, _, q3, h3⟩ := pick_ok c hc a2 s2 5 (by omega)
  obtain ⟨r4, a4, s4, e4, p4, _, q4, h4⟩ := pick_ok c hc a3 s3 5 (by omega)
  unfold spec_l1Cur_sureChase.f
  rw [e1]
  simp only [Option.bind_some]
  rw [e2]
  simp only [Option.bind_some]
  rw [e3]
  simp only [Option.bind_some, spec_l1Most_eq, e4]
  split
  · exact ⟨_, _, _, _, _, _, rfl, by omega, wrap_range _, by omega, by omega⟩
  · exact ⟨_, _, _, _, _, _, rfl, by omega, wrap_range _, by omega, by omega⟩
theorem chase_ok (c : List Int) (hc : bytes c) (a s : Int) (ha : 0 ≤ a ∧ a ≤ 4000000000000000000 - 12) : ∃ A L R D a' s', spec_l1Cur_chase.f c a s = some (A, L, R, D, a', s') ∧ (-9223372036854775808 ≤ D ∧ D ≤ 9223372036854775807) ∧ a ≤ a' ∧ a' ≤ a + 12 := by
  obtain ⟨A, L, R, D, a1, s1, e1, hL, hD, h1⟩ := sureChase_ok c hc a s (by omega)
  obtain ⟨r2, a2, s2, e2, _, _, _, h2⟩ := pick_ok c hc a1 s1 16 (by omega)
  unfold spec_l1Cur_chase.f
  rw [e1]
  simp only [Option.bind_some]
  rw [e2]
  simp only [Option.bind_some]
  split
  · obtain ⟨q, a3, s3, e3, _, h3⟩ := among_ok c hc a2 s2 [0, (-1), 1000, 1001, 4611686018427387904] (by decide) (by omega)
    rw [e3]
    simp only [Option.bind_some]
    exact ⟨_, _, _, _, _, _, rfl, hD, by omega, by omega⟩
  · split
    · obtain ⟨q, a3, s3, e3, m3, h3⟩ := among_ok c hc a2 s2 [0, L, 20, 21, 4611686018427387904] (by simp) (by omega)
      rw [e3]
      simp only [Option.bind_some]
      refine ⟨_, _, _, _, _, _, rfl, ?_, by omega, by omega⟩
      simp only [List.mem_cons, List.not_mem_nil, or_false] at m3
      rcases m3 with rfl | rfl | rfl | rfl | rfl <;> omega
    · split
      · obtain ⟨q, a3, s3, e3, _, h3⟩ := among_ok c hc a2 s2 [(-1), 0, 20, 19] (by decide) (by omega)
        rw [e3]
        simp only [Option.bind_some]
        exact ⟨_, _, _, _, _, _, rfl, hD, by omega, by omega⟩
      · exact ⟨_, _, _, _, _, _, rfl, hD, by omega, by omega⟩
theorem one_ok (c : List Int) (hc : bytes c) (a s n : Int) (ha : 0 ≤ a ∧ a ≤ 4000000000000000000 - 2) : ∃ r a' s', spec_l1Cur_one.f c a s n = some (r, a', s') ∧ a ≤ a' ∧ a' ≤ a + 2 := by
  obtain ⟨r, a', s', e, _, _, _, h⟩ := pick_ok c hc a s n ha
  unfold spec_l1Cur_one.f
  rw [e]
  exact ⟨_, _, _, rfl, h⟩
theorem chased_j0_ok (c : List Int) (hc : bytes c) (b : Bool) (a s A L R D : Int) (ha : 0 ≤ a ∧ a ≤ 4000000000000000000 - 20) (k : Nat) : ∃ n e a' s', spec_l1Cur_chased.j0 (k + 1) b c a s A L R D = some (A, L, R, D, n, e, a', s') := by
  simp only [spec_l1Cur_chased.j0]
  by_cases hb : b = true
  · rw [if_pos hb]
    exact ⟨_, _, _, _, rfl⟩
  · rw [if_neg hb]
    obtain ⟨q, a1, s1, e1, h1⟩ := one_ok c hc a s 12 (by omega)
    rw [e1]
    simp only [Option.bind_some]
    split
    · obtain ⟨q2, a2, s2, e2, _, h2⟩ := among_ok c hc a1 s1 [(-1), 0, 1000, 1001] (by decide) (by omega)
      rw [e2]
      simp only [Option.bind_some]
      obtain ⟨q3, a3, s3, e3, _, h3⟩ := among_ok c hc a2 s2 [0, 1, 100, 101] (by decide) (by omega)
      rw [e3]
      exact ⟨_, _, _, _, rfl⟩
    · obtain ⟨q2, a2, s2, e2, _, _, _, h2⟩ := pick_ok c hc a1 s1 20 (by omega)
      rw [e2]
      simp only [Option.bind_some]
      obtain ⟨q3, a3, s3, e3, _, _, _, h3⟩ := pick_ok c hc a2 s2 6 (by omega)
      rw [e3]
      exact ⟨_, _, _, _, rfl⟩
theorem drawPlace_ok (c : List Int) (hc : bytes c) (k : Nat) (hk : 2 ≤ k) : ∃ A L R D n e, spec_DrawDogPlace.f k c = some (A, L, R, D, n, e) ∧ (-9223372036854775808 ≤ D ∧ D ≤ 9223372036854775807) := by
  obtain ⟨k, rfl⟩ : ∃ m, k = m + 1 := ⟨k - 1, by omega⟩
  obtain ⟨A, L, R, D, a1, s1, e1, hD, h1⟩ := chase_ok c hc 0 0 (by omega)
  obtain ⟨q, a2, s2, e2, h2⟩ := one_ok c hc a1 s1 8 (by omega)
  unfold spec_DrawDogPlace.f spec_l1Cur_chased.f
  rw [e1]
  simp only [Option.bind_some]
  rw [e2]
  simp only [Option.bind_some]
  split
  · obtain ⟨g, eg⟩ : ∃ g, spec_doGood.f A L R D = some g := by
      by_cases h : isCh A L R D
      · exact ⟨_, spec_doGood_yes A L R D h⟩
      · exact ⟨_, spec_doGood_no A L R D hD h⟩
    rw [eg]
    simp only [Option.bind_some]
    obtain ⟨n, e, a', s', ee⟩ := chased_j0_ok c hc g a2 s2 A L R D (by omega) k
    rw [ee]
    exact ⟨_, _, _, _, _, _, rfl, hD⟩
  · obtain ⟨n, e, a', s', ee⟩ := chased_j0_ok c hc false a2 s2 A L R D (by omega) k
    rw [ee]
    exact ⟨_, _, _, _, _, _, rfl, hD⟩
theorem drawCan_ok (c : List Int) (hc : bytes c) : ∃ x y z u, spec_DrawCanCatch.f c = some (x, y, z, u) := by
  obtain ⟨q, a1, s1, e1, h1⟩ := one_ok c hc 0 0 10 (by omega)
  unfold spec_DrawCanCatch.f
  rw [e1]
  simp only [Option.bind_some]
  split
  · obtain ⟨q2, a2, s2, e2, _, h2⟩ := among_ok c hc a1 s1 [0, 1, 20, 21] (by decide) (by omega)
    rw [e2]
    simp only [Option.bind_some]
    obtain ⟨q3, a3, s3, e3, _, h3⟩ := among_ok c hc a2 s2 [0, 1, 20, 21] (by decide) (by omega)
    rw [e3]
    exact ⟨_, _, _, _, rfl⟩
  · obtain ⟨q2, a2, s2, e2, _, _, _, h2⟩ := pick_ok c hc a1 s1 6 (by omega)
    rw [e2]
    simp only [Option.bind_some]
    obtain ⟨q3, a3, s3, e3, _, _, _, h3⟩ := pick_ok c hc a2 s2 5 (by omega)
    rw [e3]
    simp only [Option.bind_some]
    obtain ⟨q4, a4, s4, e4, _, _, _, h4⟩ := pick_ok c hc a3 s3 4 (by omega)
    rw [e4]
    simp only [Option.bind_some]
    obtain ⟨q5, a5, s5, e5, _, _, _, h5⟩ := pick_ok c hc a4 s4 5 (by omega)
    rw [e5]
    exact ⟨_, _, _, _, rfl⟩
theorem drawLeaps_ok (c : List Int) (hc : bytes c) : ∃ v x y z u, spec_DrawCatchLeaps.f c = some (v, x, y, z, u) := by
  obtain ⟨q2, a2, s2, e2, _, h2⟩ := among_ok c hc 0 0 [1, 2, 10, 50, 1000, 1001, 0] (by decide) (by omega)
  obtain ⟨x, y, z, u, ed⟩ := drawCan_ok c hc
  unfold spec_DrawCatchLeaps.f
  rw [e2]
  simp only [Option.bind_some]
  rw [ed]
  exact ⟨_, _, _, _, _, rfl⟩
theorem drawSpeed_ok (c : List Int) (hc : bytes c) : ∃ x y z, spec_DrawCatchSpeed.f c = some (x, y, z) := by
  obtain ⟨q1, a1, s1, e1, _, h1⟩ := among_ok c hc 0 0 [1, 2, 10, 50, 1000, 1001, 0] (by decide) (by omega)
  obtain ⟨q2, a2, s2, e2, _, h2⟩ := among_ok c hc a1 s1 [1, 2, 3, 7, 1000, 1001, 0] (by decide) (by omega)
  obtain ⟨q3, a3, s3, e3, _, h3⟩ := among_ok c hc a2 s2 [0, 1, 3, 20, 21, (-1)] (by decide) (by omega)
  unfold spec_DrawCatchSpeed.f
  rw [e1]
  simp only [Option.bind_some]
  rw [e2]
  simp only [Option.bind_some]
  rw [e3]
  exact ⟨_, _, _, rfl⟩
theorem sureChase_small (c : List Int) (hc : bytes c) (a s : Int) (ha : 0 ≤ a ∧ a ≤ 4000000000000000000 - 8) : ∃ A L R D a' s', spec_l1Cur_sureChase.f c a s = some (A, L, R, D, a', s') ∧ isCh A L R D ∧ a ≤ a' ∧ a' ≤ a + 8 := by
  obtain ⟨r1, a1, s1, e1, l1, u1, _, h1⟩ := pick_ok c hc a s 60 (by omega)
  obtain ⟨r2, a2, s2, e2, l2, u2, _, h2⟩ := pick_ok c hc a1 s1 5 (by omega)
  obtain ⟨r3, a3, s3, e3, l3, u3, _, h3⟩ := pick_ok c hc a2 s2 5 (by omega)
  obtain ⟨r4, a4, s4, e4, l4, u4, _, h4⟩ := pick_ok c hc a3 s3 5 (by omega)
  have v1 := u1 (by omega)
  have v2 := u2 (by omega)
  have v3 := u3 (by omega)
  have v4 := u4 (by omega)
  unfold spec_l1Cur_sureChase.f
  rw [e1]
  simp only [Option.bind_some]
  rw [e2]
  simp only [Option.bind_some]
  rw [e3]
  simp only [Option.bind_some, spec_l1Most_eq, e4]
  rw [w64 (x := r2 + r3) (by omega), w64 (x := 1 + r1) (by omega)]
  split
  · refine ⟨_, _, _, _, _, _, rfl, ?_, by omega, by omega⟩
    unfold isCh
    rw [w64 (x := (if 1 > r3 then 1 else r3) + 1) (by split <;> omega), w64 (by split <;> omega)]
    split <;> omega
  · refine ⟨_, _, _, _, _, _, rfl, ?_, by omega, by omega⟩
    unfold isCh
    rw [w64 (x := (if r2 > r3 then r2 else r3) + 1) (by split <;> omega), w64 (by split <;> omega)]
    split <;> omega
theorem ext_size (x : ByteArray) (i j : Nat) : (x.extract i j).size ≤ j - i ∧ (x.extract i j).size ≤ x.size - i := by
  rw [ByteArray.size_extract]
  omega
theorem spoilt_l0 (c : List Int) (hc : bytes c) (x2 : ByteArray) (hx2 : 1 ≤ x2.size ∧ x2.size ≤ 200) (n : Nat) : ∀ (k : Nat) (x1 : ByteArray) (a s : Int), n ≤ 5 → x1.size + n ≤ 1000000 → 0 ≤ a → a + 10 * n ≤ 4000000000000000000 - 20 → 2 * n + 2 ≤ k →
    ∃ y a' s', spec_l1Cur_spoilt.l0 k x1 x2 (n : Int) c a s = some (y, a', s') ∧ y.size ≤ x1.size + n := by
  induction n with
  | zero =>
    intro k x1 a s _ hx h0 h1 hk
    obtain ⟨k, rfl⟩ : ∃ m, k = m + 1 + 1 := ⟨k - 2, by omega⟩
    simp only [spec_l1Cur_spoilt.l0, spec_l1Cur_spoilt.j1]
    rw [if_neg (by omega), if_neg (by decide)]
    exact ⟨_, _, _, rfl, by omega⟩
  | succ n ih =>
    intro k x1 a s hn hx h0 h1 hk
    obtain ⟨k, rfl⟩ : ∃ m, k = m + 1 + 1 := ⟨k - 2, by omega⟩
    have ew : wrap64 (((n + 1 : Nat) : Int) - 1) = (n : Int) := by rw [w64 (by omega)]; omega
    simp only [spec_l1Cur_spoilt.l0, spec_l1Cur_spoilt.j1]
    rw [if_pos (by omega)]
    by_cases hz : (x1.size : Int) > 0
    · rw [decide_eq_true hz, if_pos rfl]
      obtain ⟨i, a1, s1, e1, l1, u1, _, g1⟩ := pick_ok c hc a s (x1.size : Int) (by omega)
      obtain ⟨j, a2, s2, e2, l2, u2, _, g2⟩ := pick_ok c hc a1 s1 (x2.size : Int) (by omega)
      obtain ⟨m, a3, s3, e3, l3, u3, _, g3⟩ := pick_ok c hc a2 s2 3 (by omega)
      have v1 := u1 (by omega)
      have v2 := u2 (by omega)
      have w1 : wrap64 (i + 1) = i + 1 := w64 (by omega)
      have q1 := ext_size x1 0 i.toNat
      have q2 := ext_size x1 i.toNat x1.size
      have q3 := ext_size x1 (i + 1).toNat x1.size
      rw [e1]
      simp only [Option.bind_some]
      rw [e2]
      simp only [Option.bind_some]
      rw [if_pos l2, if_pos v2]
      rw [e3]
      simp only [Option.bind_some]
      have q4 : (strOfNums [bt x2 j]).size = 1 := by simp [strOfNums, ByteArray.size]
      rw [w1, ew]
      have l2' : i ≤ (x1.size : Int) := by omega
      split
      · rw [if_pos (by omega), if_pos (by rw [ByteArray.size_append]; omega)]
        obtain ⟨y, a', s', ey, hy⟩ := ih k ((x1.extract 0 i.toNat ++ strOfNums [bt x2 j]) ++ x1.extract i.toNat x1.size) a3 s3 (by omega) (by rw [ByteArray.size_append, ByteArray.size_append]; omega) (by omega) (by omega) (by omega)
        rw [ey]
        refine ⟨_, _, _, rfl, ?_⟩
        rw [ByteArray.size_append, ByteArray.size_append] at hy
        omega
      · split
        · rw [if_pos (by omega), if_pos (by omega), if_pos (by omega), if_pos (by rw [ByteArray.size_append]; omega)]
          obtain ⟨y, a', s', ey, hy⟩ := ih k ((x1.extract 0 i.toNat ++ strOfNums [bt x2 j]) ++ x1.extract (i + 1).toNat x1.size) a3 s3 (by omega) (by rw [ByteArray.size_append, ByteArray.size_append]; omega) (by omega) (by omega) (by omega)
          rw [ey]
          refine ⟨_, _, _, rfl, ?_⟩
          rw [ByteArray.size_append, ByteArray.size_append] at hy
          omega
        · rw [if_pos (by omega), if_pos (by omega), if_pos (by omega)]
          obtain ⟨y, a', s', ey, hy⟩ := ih k (x1.extract 0 i.toNat ++ x1.extract (i + 1).toNat x1.size) a3 s3 (by omega) (by rw [ByteArray.size_append]; omega) (by omega) (by omega) (by omega)
          rw [ey]
          refine ⟨_, _, _, rfl, ?_⟩
          rw [ByteArray.size_append] at hy
          omega
    · rw [decide_eq_false hz, if_neg (by decide)]
      exact ⟨_, _, _, rfl, by omega⟩
theorem spoilt_ok (c : List Int) (hc : bytes c) (x1 x2 : ByteArray) (hx2 : 1 ≤ x2.size ∧ x2.size ≤ 200) (hx1 : x1.size ≤ 100000) (a s : Int) (ha : 0 ≤ a ∧ a ≤ 4000000000000000000 - 200) (k : Nat) (hk : 20 ≤ k) :
    ∃ y a' s', spec_l1Cur_spoilt.f k c a s x1 x2 = some (y, a', s') ∧ y.size ≤ x1.size + 5 := by
  obtain ⟨r, a1, s1, e1, l1, u1, _, g1⟩ := pick_ok c hc a s 2 (by omega)
  have v1 := u1 (by omega)
  unfold spec_l1Cur_spoilt.f
  rw [e1]
  simp only [Option.bind_some]
  obtain ⟨n, rfl⟩ := Int.eq_ofNat_of_zero_le l1
  have ew : wrap64 (1 + (n : Int)) = ((n + 1 : Nat) : Int) := by rw [w64 (by omega)]; omega
  rw [ew]
  obtain ⟨y, a', s', ey, hy⟩ := spoilt_l0 c hc x2 hx2 (n + 1) k x1 a1 s1 (by omega) (by omega) (by omega) (by omega) (by omega)
  exact ⟨y, a', s', ey, by omega⟩
theorem drawParse_ok (c : List Int) (hc : bytes c) (k : Nat) (hk : 1000000 < k) : ∃ s, spec_DrawParseChase.f k c = some s ∧ s.data.toList.length ≤ 1048576 := by
  obtain ⟨A, L, R, D, a1, s1, e1, h, g1⟩ := sureChase_small c hc 0 0 (by omega)
  obtain ⟨q, a2, s2, e2, g2⟩ := one_ok c hc a1 s1 3 (by omega)
  have hl := chase_len A L R D h
  unfold chaseTx at hl
  unfold spec_DrawParseChase.f
  rw [e1]
  simp only [Option.bind_some]
  rw [spec_doText_eq A L R D h k hk]
  simp only [Option.bind_some]
  rw [e2]
  simp only [Option.bind_some]
  generalize Go.Lib.itoa A ++ [45] ++ Go.Lib.itoa L ++ [45] ++ Go.Lib.itoa R ++ [45] ++ Go.Lib.itoa D = t at *
  have ht : (tx t).size = (tx t).data.toList.length := by rw [Array.length_toList]; rfl
  split
  · obtain ⟨y, a', s', ey, hy⟩ := spoilt_ok c hc (tx t) ⟨#[48, 49, 50, 51, 45, 120]⟩ (by decide) (by omega) a2 s2 (by omega) k (by omega)
    rw [ey]
    refine ⟨_, rfl, ?_⟩
    have hz : y.size = y.data.toList.length := by rw [Array.length_toList]; rfl
    show y.data.toList.length ≤ 1048576
    omega
  · exact ⟨_, rfl, by omega⟩
theorem chase_back (l : List UInt8) (a b c d : Int) (h : chOf l = (a, b, c, d, true)) : isCh a b c d ∧ chaseTx a b c d = tx l := by
  unfold chOf at h
  split at h
  · rename_i p q r s e
    by_cases g : isCh (num p) (num q) (num r) (num s)
    · rw [if_pos g] at h
      injection h with h1 h
      injection h with h2 h
      injection h with h3 h
      injection h with h4 _
      subst h1 h2 h3 h4
      refine ⟨g, ?_⟩
      have j := join_sp 45 l
      rw [e] at j
      unfold isCh at g
      unfold chaseTx
      rw [(num_yes p (by omega)).1, (num_yes q (by omega)).1, (num_yes r (by omega)).1, (num_yes s (by omega)).1, ← j, Go.Lib.join_cons]
      simp [Go.Lib.joinTail]
    · rw [if_neg g] at h
      injection h with _ h
      injection h with _ h
      injection h with _ h
      injection h with _ h
      cases h
  · injection h with _ h
    injection h with _ h
    injection h with _ h
    injection h with _ h
    cases h
theorem J10 (s : ByteArray) (a b c d : Int) (e : Bool) (he : chOf s.data.toList = (a, b, c, d, e)) (k : Nat) (hk : 1000001 < k) : laws_FnDogsChase.j10 k s e false a b c d = some true := by
  obtain ⟨k, rfl⟩ : ∃ m, k = m + 1 := ⟨k - 1, by omega⟩
  simp only [laws_FnDogsChase.j10, Bool.false_eq_true, if_false]
  cases e with
  | false => rw [if_neg (by decide)]
  | true =>
    obtain ⟨h, ht⟩ := chase_back _ _ _ _ _ he
    rw [if_pos rfl, impl_ChaseText_yes a b c d h k (by omega), ht, tx_of]
    simp
def csV (a0 a1 a2 : Int) : Int × Int × Bool := if (1 ≤ a0 ∧ a0 ≤ 1000) ∧ (1 ≤ a1 ∧ a1 ≤ 1000) ∧ (0 ≤ a2 ∧ a2 ≤ 20) then (lowN (a0 + a2 * a1) a1, lowD (a0 + a2 * a1) a1, true) else (0, 0, false)
theorem speed_both (a0 a1 a2 : Int) (k : Nat) (hk : (1000000000000000 : Int) < k) : spec_CatchSpeed.f k a0 a1 a2 = some (csV a0 a1 a2) ∧ impl_CatchSpeed.f k a0 a1 a2 = some (csV a0 a1 a2) := by
  unfold csV
  by_cases h1 : 1 ≤ a0 ∧ a0 ≤ 1000
  · by_cases h2 : 1 ≤ a1 ∧ a1 ≤ 1000
    · by_cases h3 : 0 ≤ a2 ∧ a2 ≤ 20
      · have p := bm (A := 20) (B := 1000) (a := a2) (b := a1) (by omega) (by omega)
        rw [if_pos ⟨h1, h2, h3⟩]
        simp only [spec_CatchSpeed.f, impl_CatchSpeed.f, spec_l1In_eq, impl_within_eq, Option.bind_some, h1, h2, h3, and_self, decide_true, if_true]
        rw [w64 (x := a2 * a1) (by omega), w64 (x := a0 + a2 * a1) (by omega), w64 (x := a2 * a1 + a0) (by omega), Int.add_comm (a2 * a1) a0,
          spec_meLow_eq _ _ _ (by omega) (by omega) (by omega) (by omega), impl_lowest_eq _ _ _ (by omega) (by omega) (by omega) (by omega)]
        exact ⟨rfl, rfl⟩
      · rw [if_neg (fun z => h3 z.2.2)]
        simp [spec_CatchSpeed.f, impl_CatchSpeed.f, spec_l1In_eq, impl_within_eq, h1, h2, h3]
    · rw [if_neg (fun z => h2 z.2.1)]
      simp [spec_CatchSpeed.f, impl_CatchSpeed.f, spec_l1In_eq, impl_within_eq, h1, h2]
  · rw [if_neg (fun z => h1 z.1)]
    simp [spec_CatchSpeed.f, impl_CatchSpeed.f, spec_l1In_eq, impl_within_eq, h1]
theorem J9 (s : ByteArray) (a b c d : Int) (e : Bool) (he : chOf s.data.toList = (a, b, c, d, e)) (a0 a1 a2 x y : Int) (o : Bool) (ho : csV a0 a1 a2 = (x, y, o)) (k : Nat) (hk : 2000001 < k) :
    laws_FnDogsChase.j9 k a0 a1 a2 x y o s e a b c d = some true := by
  obtain ⟨k, rfl⟩ : ∃ m, k = m + 1 := ⟨k - 1, by omega⟩
  have j := J10 s a b c d e he k (by omega)
  simp only [laws_FnDogsChase.j9]
  cases o with
  | false =>
    rw [if_neg (by decide)]
    exact j
  | true =>
    unfold csV at ho
    by_cases g : (1 ≤ a0 ∧ a0 ≤ 1000) ∧ (1 ≤ a1 ∧ a1 ≤ 1000) ∧ (0 ≤ a2 ∧ a2 ≤ 20)
    · rw [if_pos g] at ho
      injection ho with h1 h2
      injection h2 with h2 _
      have p := bm (A := 20) (B := 1000) (a := a2) (b := a1) (by omega) (by omega)
      have yl := yLow_low (a0 + a2 * a1) a1 (by omega) (by omega) k (by omega)
      have cc := low_cross (a0 + a2 * a1) a1
      have r1 := low_nonneg (a := a0 + a2 * a1) (b := a1) (by omega) (by omega)
      have r2 := lowD_range (a := a0 + a2 * a1) (b := a1) (by omega)
      rw [h1, h2] at yl cc
      rw [h1] at r1
      rw [h2] at r2
      have m1 := bm (A := 21000) (B := 1000) (a := x) (b := a1) (by omega) (by omega)
      have m2 := bm (A := 1000) (B := 21000) (a := y) (b := a0 + a2 * a1) (by omega) (by omega)
      rw [if_pos rfl, yl]
      simp only [Option.bind_some, if_true]
      rw [w64 (x := a2 * a1) (by omega), w64 (x := a0 + a2 * a1) (by omega), w64 (x := x * a1) (by omega), w64 (x := y * (a0 + a2 * a1)) (by omega), cc, Int.mul_comm y, bne_self_eq_false]
      exact j
    · rw [if_neg g] at ho
      injection ho with _ h2
      injection h2 with _ h2
      cases h2
def clV (a0 a1 a2 a3 a4 : Int) : Int × Bool := if (1 ≤ a0 ∧ a0 ≤ 1000) ∧ isLeaps a1 a2 a3 a4 ∧ a2 * a3 < a1 * a4 then ((a0 * (a1 * a3) + (a1 * a4 - a2 * a3) - 1).tdiv (a1 * a4 - a2 * a3), true) else (0, false)
theorem leaps_facts {a0 a1 a2 a3 a4 : Int} (h0 : 1 ≤ a0 ∧ a0 ≤ 1000) (h : isLeaps a1 a2 a3 a4) (hg : a2 * a3 < a1 * a4) :
    (1 ≤ a1 * a4 ∧ a1 * a4 ≤ 400) ∧ (1 ≤ a2 * a3 ∧ a2 * a3 ≤ 400) ∧ (1 ≤ a1 * a3 ∧ a1 * a3 ≤ 400) ∧ (1 ≤ a0 * a3 ∧ a0 * a3 ≤ 20000) ∧ (1 ≤ a0 * (a1 * a3) ∧ a0 * (a1 * a3) ≤ 400000) ∧ (1 ≤ a0 * a1 ∧ a0 * a1 ≤ 20000) := by
  obtain ⟨g1, g2, g3, g4⟩ := h
  have b1 : ∀ x y X Y : Int, 1 ≤ x ∧ x ≤ X → 1 ≤ y ∧ y ≤ Y → 1 ≤ x * y ∧ x * y ≤ X * Y := by
    intro x y X Y hx hy
    have m := bm (A := X) (B := Y) (a := x) (b := y) (by omega) (by omega)
    have p := Int.mul_pos (show 0 < x by omega) (show 0 < y by omega)
    omega
  have p3 := b1 a1 a3 20 20 (by omega) (by omega)
  exact ⟨b1 _ _ 20 20 (by omega) (by omega), b1 _ _ 20 20 (by omega) (by omega), p3, b1 _ _ 1000 20 (by omega) (by omega), b1 _ _ 1000 400 (by omega) p3, b1 _ _ 1000 20 (by omega) (by omega)⟩
theorem leaps_both (a0 a1 a2 a3 a4 : Int) (k : Nat) (hk : 4 < k) : spec_CatchLeaps.f k a0 a1 a2 a3 a4 = some (clV a0 a1 a2 a3 a4) ∧ impl_CatchLeaps.f k a0 a1 a2 a3 a4 = some (clV a0 a1 a2 a3 a4) := by
  unfold clV
  have ec : a4 * a1 = a1 * a4 := Int.mul_comm a4 a1
  by_cases h0 : 1 ≤ a0 ∧ a0 ≤ 1000
  · by_cases h : isLeaps a1 a2 a3 a4
    · have g := h
      obtain ⟨g1, g2, g3, g4⟩ := g
      have p1 := bm (A := 20) (B := 20) (a := a1) (b := a4) (by omega) (by omega)
      have p2 := bm (A := 20) (B := 20) (a := a2) (b := a3) (by omega) (by omega)
      have p3 := bm (A := 20) (B := 20) (a := a1) (b := a3) (by omega) (by omega)
      have p4 := bm (A := 1000) (B := 20) (a := a0) (b := a3) (by omega) (by omega)
      have p5 := bm (A := 1000) (B := 400) (a := a0) (b := a1 * a3) (by omega) (by omega)
      have p6 : a0 * a3 * a1 = a0 * (a1 * a3) := by rw [Int.mul_assoc, Int.mul_comm a3 a1]
      simp only [spec_CatchLeaps.f, impl_CatchLeaps.f, spec_doLeaps_eq k hk, impl_areLeaps_eq k hk, spec_l1In_eq, impl_within_eq, Option.bind_some, h, h0, and_self, decide_true, if_true, ec, true_and]
      rw [w64 (x := a0 * a3) (by omega), p6, w64 (x := a1 * a3) (by omega), w64 (x := a1 * a4) (by omega), w64 (x := a2 * a3) (by omega)]
      by_cases h5 : a1 * a4 ≤ a2 * a3
      · rw [if_pos h5, if_neg (by omega)]
        exact ⟨rfl, rfl⟩
      · have lu := leaps_up (a0 * (a1 * a3)) (a1 * a4 - a2 * a3) (leaps_facts h0 h (by omega)).2.2.2.2.1.1 (by omega)
        rw [if_neg h5, w64 (x := a1 * a4 - a2 * a3) (by omega), if_neg (show ¬ (a1 * a4 - a2 * a3 = 0) by omega), if_pos (show a2 * a3 < a1 * a4 by omega), w64 (x := a0 * (a1 * a3)) (by omega), w64 (x := a0 * (a1 * a3) + (a1 * a4 - a2 * a3)) (by omega), w64 (x := a0 * (a1 * a3) + (a1 * a4 - a2 * a3) - 1) (by omega), w64 (by omega)]
        exact ⟨rfl, rfl⟩
    · rw [if_neg (fun z => h z.2.1)]
      simp [spec_CatchLeaps.f, impl_CatchLeaps.f, spec_doLeaps_eq k hk, impl_areLeaps_eq k hk, spec_l1In_eq, impl_within_eq, h, h0]
  · rw [if_neg (fun z => h0 z.1)]
    simp [spec_CatchLeaps.f, impl_CatchLeaps.f, spec_l1In_eq, impl_within_eq, h0]
theorem can_both (a0 a1 a2 a3 : Int) (k : Nat) (hk : 4 < k) : ∃ y, spec_CanCatch.f k a0 a1 a2 a3 = some y ∧ impl_CanCatch.f k a0 a1 a2 a3 = some y := by
  simp only [spec_CanCatch.f, impl_CanCatch.f, spec_doLeaps_eq k hk, impl_areLeaps_eq k hk, Option.bind_some]
  rw [Int.mul_comm a3 a0]
  by_cases h : isLeaps a0 a1 a2 a3
  · simp only [h, decide_true, if_true]
    exact ⟨_, rfl, rfl⟩
  · simp only [h, decide_false, Bool.false_eq_true, if_false]
    exact ⟨_, rfl, rfl⟩
theorem can_yes (a1 a2 a3 a4 : Int) (h : isLeaps a1 a2 a3 a4) (hg : a2 * a3 < a1 * a4) (k : Nat) (hk : 4 < k) : impl_CanCatch.f k a1 a2 a3 a4 = some (true, true) := by
  have f := leaps_facts (a0 := 1) (by omega) h hg
  simp only [impl_CanCatch.f, impl_areLeaps_eq k hk, Option.bind_some, h, decide_true, if_true]
  rw [Int.mul_comm a4 a1, w64 (x := a1 * a4) (by omega), w64 (x := a2 * a3) (by omega), decide_eq_true (show a1 * a4 > a2 * a3 from hg)]
theorem J8 (s : ByteArray) (a b c d : Int) (e : Bool) (he : chOf s.data.toList = (a, b, c, d, e)) (a0 a1 a2 x y : Int) (o : Bool) (ho : csV a0 a1 a2 = (x, y, o)) (b0 b1 b2 b3 b4 v : Int) (p : Bool) (hp : clV b0 b1 b2 b3 b4 = (v, p)) (k : Nat) (hk : 3000001 < k) :
    laws_FnDogsChase.j8 k b0 b1 b2 b3 b4 v p a0 a1 a2 x y o s e false a b c d = some true := by
  obtain ⟨k, rfl⟩ : ∃ m, k = m + 1 := ⟨k - 1, by omega⟩
  have j := J9 s a b c d e he a0 a1 a2 x y o ho k (by omega)
  simp only [laws_FnDogsChase.j8, Bool.false_eq_true, if_false]
  cases p with
  | false =>
    rw [if_neg (by decide)]
    exact j
  | true =>
    unfold clV at hp
    by_cases g : (1 ≤ b0 ∧ b0 ≤ 1000) ∧ isLeaps b1 b2 b3 b4 ∧ b2 * b3 < b1 * b4
    · obtain ⟨h0, h, hg⟩ := g
      rw [if_pos ⟨h0, h, hg⟩] at hp
      injection hp with hv _
      obtain ⟨f1, f2, f3, f4, f5, f6⟩ := leaps_facts h0 h hg
      have lu := leaps_up (b0 * (b1 * b3)) (b1 * b4 - b2 * b3) f5.1 (by omega)
      rw [hv] at lu
      have m1 := bm (A := 400000) (B := 400) (a := v) (b := b1 * b4 - b2 * b3) (by omega) (by omega)
      have m2 := bm (A := 400000) (B := 400) (a := v - 1) (b := b1 * b4 - b2 * b3) (by omega) (by omega)
      have e1 : b0 * b1 * b3 = b0 * (b1 * b3) := Int.mul_assoc _ _ _
      rw [if_pos rfl, can_yes b1 b2 b3 b4 h hg k (by omega)]
      simp only [Option.bind_some, if_true]
      rw [w64 (x := b1 * b4) (by omega), w64 (x := b2 * b3) (by omega), w64 (x := b1 * b4 - b2 * b3) (by omega), w64 (x := b0 * b1) (by omega), e1, w64 (x := b0 * (b1 * b3)) (by omega), w64 (x := v * (b1 * b4 - b2 * b3)) (by omega), w64 (x := v - 1) (by omega), w64 (x := (v - 1) * (b1 * b4 - b2 * b3)) (by omega),
        if_neg (by omega), if_neg (by omega), if_neg (by omega)]
      exact j
    · rw [if_neg g] at hp
      injection hp with _ hp
      cases hp
theorem J7 (m : List Int) (hm : bytes m) (k : Nat) (hk : (1000000000000100 : Int) < k) : laws_FnDogsChase.j7 k m = some true := by
  obtain ⟨k, rfl⟩ : ∃ m, k = m + 1 := ⟨k - 1, by omega⟩
  obtain ⟨b0, b1, b2, b3, b4, d1⟩ := drawLeaps_ok m hm
  obtain ⟨c1, c2, c3, c4, d2⟩ := drawCan_ok m hm
  obtain ⟨a0, a1, a2, d3⟩ := drawSpeed_ok m hm
  obtain ⟨s, d4, hs⟩ := drawParse_ok m hm k (by omega)
  obtain ⟨l1, l2⟩ := leaps_both b0 b1 b2 b3 b4 k (by omega)
  obtain ⟨⟨y1, y2⟩, n1, n2⟩ := can_both c1 c2 c3 c4 k (by omega)
  obtain ⟨q1, q2⟩ := speed_both a0 a1 a2 k (by omega)
  have r2 := impl_ParseChase_eq s hs k (by omega)
  have r1 : spec_ParseChase.f k s = some (chOf s.data.toList) := by
    unfold spec_ParseChase.f
    rw [spec_doParse_eq s hs k (by omega)]
    rfl
  obtain ⟨v, p, hp⟩ : ∃ v p, clV b0 b1 b2 b3 b4 = (v, p) := ⟨_, _, rfl⟩
  obtain ⟨x, y, o, ho⟩ : ∃ x y o, csV a0 a1 a2 = (x, y, o) := ⟨_, _, _, rfl⟩
  obtain ⟨a, b, c, d, e, he⟩ : ∃ a b c d e, chOf s.data.toList = (a, b, c, d, e) := ⟨_, _, _, _, _, rfl⟩
  rw [hp] at l1 l2
  rw [ho] at q1 q2
  rw [he] at r1 r2
  have j := J8 s a b c d e he a0 a1 a2 x y o ho b0 b1 b2 b3 b4 v p hp k (by omega)
  simp only [laws_FnDogsChase.j7, d1, l1, l2, d2, n1, n2, d3, q1, q2, d4, r1, r2, Option.bind_some, bne_self_eq_false, beq_self_eq_true, Bool.not_true, Bool.or_false, Bool.false_eq_true, if_false, if_true]
  exact j
theorem J5 (m : List Int) (hm : bytes m) (a l r d n e v : Int) (t : Bool) (ht : ∃ K, 50 < K ∧ impl_SlowestDog.f K a l r d n e = some (v, t)) (k : Nat) (hk : (1000000000000102 : Int) < k) : laws_FnDogsChase.j5 k m n e v t a l r d = some true := by
  obtain ⟨k, rfl⟩ : ∃ m, k = m + 1 + 1 := ⟨k - 2, by omega⟩
  have j := J7 m hm k (by omega)
  have j' := J7 m hm (k + 1) (by omega)
  simp only [laws_FnDogsChase.j5]
  cases t with
  | false =>
    rw [if_neg (by decide)]
    exact j'
  | true =>
    obtain ⟨K, hK, hf⟩ := ht
    obtain ⟨h, tm, z1, z2, z3, z4, z5⟩ := slow_facts K hK a l r d n e v hf
    have g := h
    unfold isCh at g
    obtain ⟨t1, t2, _⟩ := tm
    have m1 := bm (A := 1000) (B := 100) (a := a) (b := e) (by omega) (by omega)
    have m2 := bm (A := 1000) (B := 60) (a := n) (b := v + r) (by omega) (by omega)
    have m3 := bm (A := 1000) (B := 60) (a := n) (b := v - 1 + r) (by omega) (by omega)
    rw [if_pos rfl, if_neg (by omega), if_neg (by omega), if_neg (by omega)]
    rw [w64 (x := a * e) (by omega), w64 (x := v + r) (by omega), w64 (x := n * (v + r)) (by omega), decide_eq_false (by omega)]
    simp only [laws_FnDogsChase.j6, Bool.false_eq_true, if_false]
    rw [w64 (x := a * e) (by omega), w64 (x := v - 1) (by omega), w64 (x := v - 1 + r) (by omega), w64 (x := n * (v - 1 + r)) (by omega)]
    by_cases y1 : v - 1 > l
    · rw [if_pos y1]
      by_cases y2 : v - 1 > r
      · have z := z5 y1 y2
        rw [if_pos y2, if_neg (by omega)]
        exact j
      · rw [if_neg y2]
        exact j
    · rw [if_neg y1]
      exact j
/-- the turns up to a time: both functions' answer -/
def tuV (a l r d n e : Int) : Int × Bool := if n * (l + r) = a * e then (0, false) else if plM a l r d n e > 6 then (0, false) else ((plM a l r d n e : Int), true)
theorem turns_val (a l r d n e : Int) (h : isCh a l r d) (t : isTime a l r n e) (k : Nat) (hk : (1000000000000000200 : Int) < k) : spec_TurnsUntil.f k a l r d n e = some (tuV a l r d n e) ∧ impl_TurnsUntil.f k a l r d n e = some (tuV a l r d n e) := by
  obtain ⟨k, rfl⟩ : ∃ m, k = m + 1 := ⟨k - 1, by omega⟩
  have e1 := spec_doBefore_eq a l r d n e h t.1 t.2.1 k (by omega)
  have e2 := impl_turnsUntil_eq a l r d n e h t.1 t.2.1 k (by omega)
  have em : fst (upT a l r d n e) 7 0 = plM a l r d n e := rfl
  rw [em] at e1 e2
  have g := h
  unfold isCh at g
  obtain ⟨t1, t2, t3⟩ := t
  have m1 := bm (A := 1000) (B := 40) (a := n) (b := l + r) t1 (by omega)
  have m2 := bm (A := 1000) (B := 100) (a := a) (b := e) (by omega) (by omega)
  have w1 : wrap64 (n * wrap64 (l + r)) = n * (l + r) := by rw [w64 (x := l + r) (by omega), w64 (by omega)]
  have w2 : wrap64 (a * e) = a * e := w64 (by omega)
  have t : isTime a l r n e := ⟨t1, t2, t3⟩
  unfold tuV
  by_cases q : n * (l + r) = a * e
  · rw [if_pos q]
    constructor
    · simp [spec_TurnsUntil.f, spec_doGood_yes a l r d h, spec_doTime_eq a l r d n e h, t, spec_TurnsUntil.j0, w1, w2, q]
    · simp [impl_TurnsUntil.f, impl_isChaseTime_eq a l r d n e h, t, impl_TurnsUntil.j0, w1, w2, q]
  · have qb : (n * (l + r) == a * e) = false := beq_eq_false_iff_ne.mpr q
    rw [if_neg q]
    constructor
    · simp only [spec_TurnsUntil.f, spec_doGood_yes a l r d h, spec_doTime_eq a l r d n e h, Option.bind_some, decide_eq_true t, if_true, w1, w2, qb, spec_TurnsUntil.j0, Bool.false_eq_true, if_false, Bool.not_true, e1]
      by_cases z : plM a l r d n e > 6
      · rw [if_pos (by omega), if_pos z]
      · rw [if_neg (by omega), if_neg z]
    · simp only [impl_TurnsUntil.f, impl_isChaseTime_eq a l r d n e h, Option.bind_some, decide_eq_true t, if_true, w1, w2, qb, impl_TurnsUntil.j0, Bool.false_eq_true, if_false, Bool.not_true, e2]
      by_cases z : plM a l r d n e > 6
      · rw [if_pos (by omega), if_pos z]
      · rw [if_neg (by omega), if_neg z]
theorem row_take (a l r d : Int) (n i : Nat) (hi : i < n) : rd_L4 (dogRows a l r d n) (i : Int) = dogRow a l r d (i + 1) := by simp [rd_L4, dogRows, hi]
theorem dr_len (a l r d : Int) (k : Nat) : ((dogRow a l r d k).length : Int) = 4 := rfl
theorem dr0 (a l r d : Int) (k : Nat) : rd (dogRow a l r d k) 0 = lowN (apT a l r d k) (apO l r d k) := rfl
theorem dr1 (a l r d : Int) (k : Nat) : rd (dogRow a l r d k) 1 = lowD (apT a l r d k) (apO l r d k) := rfl
theorem turn_small {a l r d : Int} (h : isCh a l r d) (n e : Int) (hn : 0 ≤ n ∧ n ≤ 1000) (he : 1 ≤ e ∧ e ≤ 100) (k : Nat) (hk : k ≤ 7) :
    wrap64 (lowN (apT a l r d k) (apO l r d k) * e) = lowN (apT a l r d k) (apO l r d k) * e ∧ wrap64 (n * lowD (apT a l r d k) (apO l r d k)) = n * lowD (apT a l r d k) (apO l r d k) := by
  have o1 := apO_pos h k
  have o2 := apO_le7 h k hk
  have t1 := apT_nonneg h k
  have t2 := apT_le h k
  have n1 := low_nonneg (a := apT a l r d k) (b := apO l r d k) t1 (by omega)
  have d1 := lowD_range (a := apT a l r d k) (b := apO l r d k) (by omega)
  have m1 := bm (A := 163840000000000) (B := 100) (a := lowN (apT a l r d k) (apO l r d k)) (b := e) (by omega) (by omega)
  have m2 := bm (A := 1000) (B := 163840000000) (a := n) (b := lowD (apT a l r d k) (apO l r d k)) hn (by omega)
  exact ⟨w64 (by omega), w64 (by omega)⟩
theorem J4 (mm : List Int) (hm : bytes mm) (a l r d n e v : Int) (t : Bool) (h : isCh a l r d) (tm : isTime a l r n e) (ht : ∃ K, 50 < K ∧ impl_SlowestDog.f K a l r d n e = some (v, t)) (c : Nat) (hc : plM a l r d n e = c) (h6 : c ≤ 6) (k : Nat) (hk : (1000000000000000300 : Int) < k) :
    laws_FnDogsChase.j4 k mm n e (c : Int) v t a l r d = some true := by
  obtain ⟨k, rfl⟩ : ∃ m, k = m + 1 := ⟨k - 1, by omega⟩
  have j := J5 mm hm a l r d n e v t ht k (by omega)
  simp only [laws_FnDogsChase.j4]
  by_cases h3 : (c : Int) < 3
  · have e1 : wrap64 ((c : Int) + 1) = ((c + 1 : Nat) : Int) := by rw [w64 (by omega)]; rfl
    have dt := impl_DogTurns_yes a l r d h (c + 1) (by omega) k (by omega)
    have z := turn_behind h n e tm.1.1 c hc (by omega)
    obtain ⟨w1, w2⟩ := turn_small h n e tm.1 tm.2.1 (c + 1) (by omega)
    rw [if_pos h3, e1, dt]
    simp only [Option.bind_some, if_true, row_take a l r d (c + 1) c (by omega), dr_len, dr0, dr1, dogRows_length]
    rw [if_pos (by omega), if_pos (by omega), if_pos (by decide), if_pos (by decide), w1, w2, if_neg (by omega)]
    exact j
  · rw [if_neg h3]
    exact j
theorem J2 (mm : List Int) (hm : bytes mm) (a l r d n e v : Int) (t : Bool) (h : isCh a l r d) (tm : isTime a l r n e) (ht : ∃ K, 50 < K ∧ impl_SlowestDog.f K a l r d n e = some (v, t)) (c : Nat) (hc : plM a l r d n e = c) (h6 : c ≤ 6) (k : Nat) (hk : (1000000000000000302 : Int) < k) :
    laws_FnDogsChase.j2 k mm n e (c : Int) v t false a l r d = some true := by
  obtain ⟨k, rfl⟩ : ∃ m, k = m + 1 + 1 := ⟨k - 2, by omega⟩
  have j := J4 mm hm a l r d n e v t h tm ht c hc h6 k (by omega)
  simp only [laws_FnDogsChase.j2, laws_FnDogsChase.j3, Bool.false_eq_true, if_false]
  by_cases h0 : (c : Int) > 0
  · rw [if_pos h0]
    by_cases h3 : (c : Int) ≤ 3
    · obtain ⟨q, rfl⟩ : ∃ q, c = q + 1 := ⟨c - 1, by omega⟩
      have e1 : wrap64 (((q + 1 : Nat) : Int) - 1) = (q : Int) := by rw [w64 (by omega)]; omega
      have dt := impl_DogTurns_yes a l r d h (q + 1) (by omega) k (by omega)
      have z := turn_at h n e tm.1.1 (q + 1) hc (by omega)
      obtain ⟨w1, w2⟩ := turn_small h n e tm.1 tm.2.1 (q + 1) (by omega)
      rw [decide_eq_true h3, if_pos rfl, dt]
      simp only [Option.bind_some, if_true, e1, row_take a l r d (q + 1) q (by omega), dr_len, dr0, dr1, dogRows_length]
      rw [if_pos (by omega), if_pos (by omega), if_pos (by decide), if_pos (by decide), w1, w2, if_neg (by omega)]
      exact j
    · rw [decide_eq_false h3, if_neg (by decide)]
      exact j
  · rw [if_neg h0]
    exact j
theorem J1 (mm : List Int) (hm : bytes mm) (a l r d n e v x : Int) (t y : Bool) (hy : y = true → isCh a l r d ∧ isTime a l r n e ∧ tuV a l r d n e = (x, true)) (ht : ∃ K, 50 < K ∧ impl_SlowestDog.f K a l r d n e = some (v, t)) (k : Nat) (hk : (1000000000000000303 : Int) < k) :
    laws_FnDogsChase.j1 k mm n e x y v t a l r d = some true := by
  obtain ⟨k, rfl⟩ : ∃ m, k = m + 1 := ⟨k - 1, by omega⟩
  simp only [laws_FnDogsChase.j1]
  cases y with
  | false =>
    rw [if_neg (by decide)]
    exact J5 mm hm a l r d n e v t ht k (by omega)
  | true =>
    obtain ⟨h, tm, hv⟩ := hy rfl
    unfold tuV at hv
    by_cases q : n * (l + r) = a * e
    · rw [if_pos q] at hv
      injection hv with _ hv
      cases hv
    · rw [if_neg q] at hv
      by_cases z : plM a l r d n e > 6
      · rw [if_pos z] at hv
        injection hv with _ hv
        cases hv
      · rw [if_neg z] at hv
        injection hv with hv _
        subst hv
        rw [if_pos rfl, if_neg (by omega), decide_eq_false (by omega)]
        exact J2 mm hm a l r d n e v t h tm ht _ rfl (by omega) k (by omega)
theorem J0 (mm : List Int) (hm : bytes mm) (a l r d n e v x p q : Int) (t y o : Bool) (ho : o = true → isCh a l r d ∧ isTime a l r n e ∧ plV a l r d n e = (p, q, true)) (hy : y = true → isCh a l r d ∧ isTime a l r n e ∧ tuV a l r d n e = (x, true))
    (ht : ∃ K, 50 < K ∧ impl_SlowestDog.f K a l r d n e = some (v, t)) (k : Nat) (hk : (1000000000000000304 : Int) < k) :
    laws_FnDogsChase.j0 k mm n e p q o x y v t false a l r d = some true := by
  obtain ⟨k, rfl⟩ : ∃ m, k = m + 1 := ⟨k - 1, by omega⟩
  have j := J1 mm hm a l r d n e v x t y hy ht k (by omega)
  simp only [laws_FnDogsChase.j0, Bool.false_eq_true, if_false]
  cases o with
  | false =>
    rw [if_neg (by decide)]
    exact j
  | true =>
    obtain ⟨h, tm, hv⟩ := ho rfl
    obtain ⟨X, Y, x0, y0, yl, ep, eq, q1, q2, p1, p2, f1, f2⟩ := plV_fits h n e tm p q hv
    obtain ⟨t1, t2, t3⟩ := tm
    have g := h
    unfold isCh at g
    have low : laws_yLow.f k p q = some true := by
      rw [ep, eq]
      exact yLow_low X Y x0 y0 k (by omega)
    have m1 := bm (A := 409600000000000) (B := 100) (a := p) (b := e) (by omega) (by omega)
    have m2 := bm (A := 20) (B := 1000) (a := l) (b := n) (by omega) (by omega)
    have m3 := bm (A := 20000) (B := 409600000000) (a := l * n) (b := q) (by omega) (by omega)
    have m4 := bm (A := 1000) (B := 100) (a := a) (b := e) (by omega) (by omega)
    have m5 := bm (A := 20) (B := 1000) (a := r) (b := n) (by omega) (by omega)
    have m6 := bms (A := 100000) (B := 409600000000) (a := a * e - r * n) (b := q) (by omega) (by omega)
    rw [if_pos rfl, low]
    simp only [Option.bind_some, if_true]
    rw [w64 (x := p * e) (by omega), w64 (x := l * n) (by omega), w64 (x := l * n * q) (by omega), w64 (x := a * e) (by omega), w64 (x := r * n) (by omega), w64 (x := a * e - r * n) (by omega), w64 (x := (a * e - r * n) * q) (by omega), if_neg (by omega), if_neg (by omega)]
    exact j
theorem chase_nothing (a l r d n e : Int) (wd : -9223372036854775808 ≤ d ∧ d ≤ 9223372036854775807) (h : ¬ (isCh a l r d ∧ isTime a l r n e)) (k : Nat) (hk : 2 ≤ k) :
    spec_DogPlace.f k a l r d n e = some (0, 0, false) ∧ impl_DogPlace.f k a l r d n e = some (0, 0, false) ∧ spec_TurnsUntil.f k a l r d n e = some (0, false) ∧ impl_TurnsUntil.f k a l r d n e = some (0, false) := by
  obtain ⟨k, rfl⟩ : ∃ m, k = m + 1 := ⟨k - 1, by omega⟩
  by_cases g : isCh a l r d
  · have t : ¬ isTime a l r n e := fun z => h ⟨g, z⟩
    simp [spec_DogPlace.f, impl_DogPlace.f, spec_TurnsUntil.f, impl_TurnsUntil.f, spec_doGood_yes a l r d g, spec_doTime_eq a l r d n e g, impl_isChaseTime_eq a l r d n e g, t, spec_DogPlace.j0, spec_TurnsUntil.j0, impl_TurnsUntil.j0]
  · simp [spec_DogPlace.f, impl_DogPlace.f, spec_TurnsUntil.f, impl_TurnsUntil.f, spec_doGood_no a l r d wd g, impl_isChaseTime_no a l r d n e g, spec_DogPlace.j0, spec_TurnsUntil.j0, impl_TurnsUntil.j0]
theorem holds : ∀ (l0 : List Int) (l1 : List Int), l0.length ≤ maxLen → l0.length * 1 ≤ 140737488351232 → (∀ x ∈ l0, (Lit.int .u8 x).wf = true) → l1.length ≤ maxLen → l1.length * 1 ≤ 140737488351232 → (∀ x ∈ l1, (Lit.int .u8 x).wf = true) → ∃ k, laws_FnDogsChase.f k l0 l1 = some true := by
  intro c m _ _ hc _ _ hm
  obtain ⟨k, hk⟩ : ∃ k : Nat, (1000000000000000500 : Int) < k := ⟨1000000000000000501, by decide⟩
  refine ⟨k + 1, ?_⟩
  unfold laws_FnDogsChase.f
  obtain ⟨g, eg⟩ : ∃ g, laws_big.f c m = some g := by
    unfold laws_big.f
    split <;> exact ⟨_, rfl⟩
  rw [eg]
  simp only [Option.bind_some]
  by_cases hg : g = true
  · rw [if_pos hg]
  rw [if_neg hg]
  obtain ⟨a, l, r, d, n, e, ed, wd⟩ := drawPlace_ok c hc (k + 1) (by omega)
  obtain ⟨⟨v, t⟩, s1, s2⟩ := slowest_both (k + 1) (by omega) a l r d n e wd
  rw [ed]
  simp only [Option.bind_some]
  by_cases h : isCh a l r d ∧ isTime a l r n e
  · have p1 := (place_val a l r d n e h.1 h.2 k (by omega)).1
    have p2 := (place_val a l r d n e h.1 h.2 (k + 1) (by omega)).2
    obtain ⟨u1, u2⟩ := turns_val a l r d n e h.1 h.2 (k + 1) (by omega)
    obtain ⟨p, q, o, hv⟩ : ∃ p q o, plV a l r d n e = (p, q, o) := ⟨_, _, _, rfl⟩
    obtain ⟨x, y, hu⟩ : ∃ x y, tuV a l r d n e = (x, y) := ⟨_, _, rfl⟩
    have oy : y = true → o = true := by
      intro hy
      subst hy
      unfold tuV at hu
      unfold plV at hv
      by_cases z : n * (l + r) = a * e
      · rw [if_pos z] at hu
        injection hu with _ hu
        cases hu
      · rw [if_neg z] at hu hv
        by_cases z2 : plM a l r d n e > 6
        · rw [if_pos z2] at hu
          injection hu with _ hu
          cases hu
        · rw [if_neg z2] at hv
          injection hv with _ hv
          injection hv with _ hv
          exact hv.symm
    have j := J0 m hm a l r d n e v x p q t y o (fun z => by subst z; exact ⟨h.1, h.2, hv⟩) (fun z => by subst z; exact ⟨h.1, h.2, hu⟩) ⟨k + 1, by omega, s2⟩ (k + 1) (by omega)
    rw [hv] at p1 p2
    rw [hu] at u1 u2
    simp only [p1, p2, u1, u2, s1, s2, Option.bind_some, bne_self_eq_false, Bool.false_eq_true, if_false, if_true]
    cases y with
    | false =>
      rw [if_neg (by decide)]
      exact j
    | true =>
      rw [if_pos rfl, oy rfl]
      rw [oy rfl] at j
      exact j
  · obtain ⟨p1, p2, u1, u2⟩ := chase_nothing a l r d n e wd h (k + 1) (by omega)
    have j := J0 m hm a l r d n e v 0 0 0 t false false (fun z => by cases z) (fun z => by cases z) ⟨k + 1, by omega, s2⟩ (k + 1) (by omega)
    simp only [p1, p2, u1, u2, s1, s2, Option.bind_some, bne_self_eq_false, Bool.false_eq_true, if_false, if_true]
    exact j
end Go.Proofs.YtajlcomankjcjadGreatDoor.QFnDogsChase
