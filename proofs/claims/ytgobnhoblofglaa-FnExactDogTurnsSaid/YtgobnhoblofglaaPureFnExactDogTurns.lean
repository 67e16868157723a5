/- The law FnExactDogTurns in plain Lean, over the printed functions: it returns true for every input (no condition). -/
import Derived.Test.YtgobnhoblofglaaPFnExactDogTurnsx5
import Derived.OpenShut
namespace Go.Proofs.Ytgobnhoblofglaa.QFnExactDogTurns
open Go.RowKit Go.ChangeShapes Go.WideShapes Go.Proofs.Ytgobnhoblofglaa.PFnExactDogTurns Go.Proofs.YtgobnhoblofglaaW.PrintWords Go.Proofs.YtgobnhoblofglaaW.PrintLast Go.Proofs.YtgobnhoblofglaaW.PrintMore
set_option linter.unusedVariables false
set_option linter.unusedSimpArgs false
theorem w64 {x : Int} (h : -9223372036854775808 ≤ x ∧ x ≤ 9223372036854775807) : wrap64 x = x := by unfold wrap64; omega
theorem bm {a b A B : Int} (ha : 0 ≤ a ∧ a ≤ A) (hb : 0 ≤ b ∧ b ≤ B) : 0 ≤ a * b ∧ a * b ≤ A * B :=
  ⟨Int.mul_nonneg ha.1 hb.1, Int.mul_le_mul ha.2 hb.2 hb.1 (Int.le_trans ha.1 ha.2)⟩
theorem gcd_step (a b : Int) (ha : 0 ≤ a) (hb : 0 ≤ b) : Int.gcd b (a.tmod b) = Int.gcd a b := by
  obtain ⟨m, rfl⟩ := Int.eq_ofNat_of_zero_le ha
  obtain ⟨n, rfl⟩ := Int.eq_ofNat_of_zero_le hb
  rw [← Int.ofNat_tmod]
  show Nat.gcd n (m % n) = Nat.gcd m n
  rw [Nat.gcd_comm n, ← Nat.gcd_rec, Nat.gcd_comm]
def lowN (a b : Int) : Int := a / (Int.gcd a b : Int)
def lowD (a b : Int) : Int := b / (Int.gcd a b : Int)
theorem gpos {a b : Int} (hb : 0 < b) : 0 < (Int.gcd a b : Int) := by
  have := Int.gcd_pos_of_ne_zero_right a (show b ≠ 0 by omega)
  omega
theorem gle {a b : Int} (hb : 0 < b) : (Int.gcd a b : Int) ≤ b := Int.le_of_dvd hb (Int.gcd_dvd_right a b)
theorem tdiv_gcd_l (a b : Int) : a.tdiv (Int.gcd a b) = lowN a b := by
  unfold lowN
  exact (Int.tdiv_eq_ediv_of_dvd (Int.gcd_dvd_left a b))
theorem tdiv_gcd_r (a b : Int) : b.tdiv (Int.gcd a b) = lowD a b := by
  unfold lowD
  exact (Int.tdiv_eq_ediv_of_dvd (Int.gcd_dvd_right a b))
theorem low_range {a b M : Int} (hb : 0 < b) (ha : -M ≤ a ∧ a ≤ M) : -M ≤ lowN a b ∧ lowN a b ≤ M := by
  unfold lowN
  have g := gpos (a := a) hb
  have hM : 0 ≤ M := by omega
  have e := Int.ediv_mul_cancel (Int.gcd_dvd_left a b)
  constructor
  · apply Int.le_ediv_of_mul_le g
    have : -M * (Int.gcd a b : Int) ≤ -M * 1 := Int.mul_le_mul_of_nonpos_left (by omega) (by omega)
    omega
  · rcases Int.le_total 0 a with h | h
    · have := Int.ediv_le_self (Int.gcd a b : Int) h
      omega
    · have := Int.ediv_le_ediv g h
      rw [Int.zero_ediv] at this
      omega
theorem lowD_range {a b : Int} (hb : 0 < b) : 1 ≤ lowD a b ∧ lowD a b ≤ b := by
  unfold lowD
  have g := gpos (a := a) hb
  constructor
  · apply Int.le_ediv_of_mul_le g
    have := gle (a := a) hb
    omega
  · exact Int.ediv_le_self _ (by omega)
theorem bms {a b A B : Int} (ha : -A ≤ a ∧ a ≤ A) (hb : 0 ≤ b ∧ b ≤ B) : -(A * B) ≤ a * b ∧ a * b ≤ A * B := by
  have hA : 0 ≤ A := by omega
  rcases Int.le_total 0 a with h | h
  · have := bm ⟨h, ha.2⟩ hb
    have := Int.mul_nonneg hA (Int.le_trans hb.1 hb.2)
    omega
  · have := bm (a := -a) (A := A) ⟨by omega, by omega⟩ hb
    have e : -a * b = -(a * b) := Int.neg_mul a b
    omega
theorem low_scale (a b c : Int) (hc : 0 < c) : lowN (a * c) (b * c) = lowN a b ∧ lowD (a * c) (b * c) = lowD a b := by
  have e : (Int.gcd (a * c) (b * c) : Int) = (Int.gcd a b : Int) * c := by
    rw [Int.gcd_mul_right]
    have : (c.natAbs : Int) = c := by omega
    rw [Int.natCast_mul, this]
  unfold lowN lowD
  rw [e]
  exact ⟨Int.mul_ediv_mul_of_pos_left a _ hc, Int.mul_ediv_mul_of_pos_left b _ hc⟩
theorem w64b {x B : Int} (h : 0 ≤ x ∧ x ≤ B) (hB : B ≤ 9223372036854775807) : wrap64 x = x := w64 ⟨Int.le_trans (by decide) h.1, Int.le_trans h.2 hB⟩
theorem ad {x y A B : Int} (hx : 0 ≤ x ∧ x ≤ A) (hy : 0 ≤ y ∧ y ≤ B) : 0 ≤ x + y ∧ x + y ≤ A + B := ⟨Int.add_nonneg hx.1 hy.1, Int.add_le_add hx.2 hy.2⟩

theorem spec_l1In_eq (a b c : Int) : spec_l1In.f a b c = some (decide (b ≤ a ∧ a ≤ c)) := by
  unfold spec_l1In.f
  by_cases h : b ≤ a <;> simp [h]

theorem spec_l1Most_eq (a b : Int) : spec_l1Most.f a b = some (if a > b then a else b) := by
  unfold spec_l1Most.f
  split <;> rfl

/-- what a chase is -/
def isCh (a l r d : Int) : Prop := (1 ≤ a ∧ a ≤ 1000) ∧ (0 ≤ l ∧ l ≤ 20) ∧ (0 ≤ r ∧ r ≤ 20) ∧ 0 < l + r ∧ l < d ∧ r < d ∧ d ≤ 20
theorem spec_doGood_no (a l r d : Int) (wd : -9223372036854775808 ≤ d ∧ d ≤ 9223372036854775807) (h : ¬ isCh a l r d) : spec_doGood.f a l r d = some false := by
  unfold isCh at h
  simp only [spec_doGood.f, spec_l1In_eq, spec_l1Most_eq, Option.bind_some]
  by_cases h1 : 1 ≤ a ∧ a ≤ 1000
  · by_cases h2 : 0 ≤ l ∧ l ≤ 20
    · by_cases h3 : 0 ≤ r ∧ r ≤ 20
      · simp only [h1, h2, h3, and_self, decide_true, if_true]
        rw [w64 (by omega)]
        by_cases h4 : l + r > 0
        · rw [if_pos h4, w64 (by split <;> omega)]
          simp only [Option.some.injEq, decide_eq_false_iff_not]
          split <;> omega
        · rw [if_neg h4]
      · simp [h1, h2, h3]
    · simp [h1, h2]
  · simp [h1]
theorem spec_doGood_yes (a l r d : Int) (h : isCh a l r d) : spec_doGood.f a l r d = some true := by
  unfold isCh at h
  obtain ⟨h1, h2, h3, h4, h5, h6, h7⟩ := h
  simp only [spec_doGood.f, spec_l1In_eq, spec_l1Most_eq, Option.bind_some, h1, h2, h3, and_self, decide_true, if_true]
  rw [w64 (by omega), if_pos (show l + r > 0 by omega), w64 (by split <;> omega)]
  simp only [Option.some.injEq, decide_eq_true_eq]
  split <;> omega

/-- by what both go towards each other in the turn behind the turn k -/
def both (l r d : Int) (k : Nat) : Int := if k % 2 = 0 then d + r else d + l
def apO (l r d : Int) : Nat → Int
  | 0 => 1
  | k + 1 => apO l r d k * both l r d k
def apA (a l r d : Int) : Nat → Int
  | 0 => a
  | k + 1 => apA a l r d k * (both l r d k - l - r)
def apT (a l r d : Int) : Nat → Int
  | 0 => 0
  | k + 1 => apT a l r d k * both l r d k + apA a l r d k
def apP (a l r d : Int) : Nat → Int
  | 0 => 0
  | k + 1 => apP a l r d k * both l r d k + (if k % 2 = 0 then d else -d) * apA a l r d k
def apQ (a l r d : Int) : Nat → Int
  | 0 => 0
  | k + 1 => apQ a l r d k * both l r d k + (if k % 2 = 0 then apA a l r d k else 0)
theorem both_range {a l r d : Int} (h : isCh a l r d) (k : Nat) : 1 ≤ both l r d k ∧ both l r d k ≤ 40 ∧ 1 ≤ both l r d k - l - r ∧ both l r d k - l - r ≤ 20 := by
  unfold isCh at h
  unfold both
  split <;> omega
theorem apO_pos {a l r d : Int} (h : isCh a l r d) (k : Nat) : 1 ≤ apO l r d k := by
  induction k with
  | zero => exact Int.le_refl 1
  | succ k ih =>
    have b := both_range h k
    simp only [apO]
    have := Int.mul_le_mul ih b.1 (by omega) (by omega)
    omega
theorem apO_step {a l r d : Int} (h : isCh a l r d) (k : Nat) (N : Int) (hN : apO l r d k ≤ N) : apO l r d (k + 1) ≤ N * 40 := by
  have b := both_range h k
  have p := apO_pos h k
  simp only [apO]
  exact Int.mul_le_mul hN b.2.1 (by omega) (by omega)
theorem apO_le {a l r d : Int} (h : isCh a l r d) : apO l r d 0 ≤ 1 ∧ apO l r d 1 ≤ 40 ∧ apO l r d 2 ≤ 1600 ∧ apO l r d 3 ≤ 64000 ∧ apO l r d 4 ≤ 2560000 ∧ apO l r d 5 ≤ 102400000 ∧ apO l r d 6 ≤ 4096000000 ∧ apO l r d 7 ≤ 163840000000 := by
  have h0 : apO l r d 0 ≤ 1 := Int.le_refl 1
  have h1 := apO_step h 0 _ h0
  have h2 := apO_step h 1 _ h1
  have h3 := apO_step h 2 _ h2
  have h4 := apO_step h 3 _ h3
  have h5 := apO_step h 4 _ h4
  have h6 := apO_step h 5 _ h5
  have h7 := apO_step h 6 _ h6
  exact ⟨h0, h1, h2, h3, h4, h5, h6, h7⟩
theorem apO_le7 {a l r d : Int} (h : isCh a l r d) (k : Nat) (hk : k ≤ 7) : apO l r d k ≤ 163840000000 := by
  have q := apO_le h
  obtain rfl | rfl | rfl | rfl | rfl | rfl | rfl | rfl : k = 0 ∨ k = 1 ∨ k = 2 ∨ k = 3 ∨ k = 4 ∨ k = 5 ∨ k = 6 ∨ k = 7 := by omega
  all_goals omega
theorem apO_le4 {a l r d : Int} (h : isCh a l r d) (k : Nat) (hk : k ≤ 4) : apO l r d k ≤ 2560000 := by
  have q := apO_le h
  obtain rfl | rfl | rfl | rfl | rfl : k = 0 ∨ k = 1 ∨ k = 2 ∨ k = 3 ∨ k = 4 := by omega
  all_goals omega
theorem apA_pos {a l r d : Int} (h : isCh a l r d) (k : Nat) : 1 ≤ apA a l r d k := by
  induction k with
  | zero =>
    unfold isCh at h
    exact h.1.1
  | succ k ih =>
    have b := both_range h k
    simp only [apA]
    have := Int.mul_le_mul ih b.2.2.1 (by omega) (by omega)
    omega
/-- what is left and what is gone are the whole -/
theorem apT_inv {a l r d : Int} (k : Nat) : (l + r) * apT a l r d k + apA a l r d k = a * apO l r d k := by
  induction k with
  | zero => simp [apT, apA, apO]
  | succ k ih =>
    simp only [apT, apA, apO]
    have e : (l + r) * (apT a l r d k * both l r d k + apA a l r d k) + apA a l r d k * (both l r d k - l - r) = ((l + r) * apT a l r d k + apA a l r d k) * both l r d k := by grind
    rw [e, ih]
    grind
theorem apT_nonneg {a l r d : Int} (h : isCh a l r d) (k : Nat) : 0 ≤ apT a l r d k := by
  induction k with
  | zero => exact Int.le_refl 0
  | succ k ih =>
    have b := both_range h k
    have p := apA_pos h k
    simp only [apT]
    have := Int.mul_nonneg ih (show 0 ≤ both l r d k by omega)
    omega
theorem aO_le {a l r d : Int} (h : isCh a l r d) (k : Nat) : a * apO l r d k ≤ 1000 * apO l r d k := by
  have p := apO_pos h k
  unfold isCh at h
  exact Int.mul_le_mul_of_nonneg_right (by omega) (by omega)
theorem apA_le {a l r d : Int} (h : isCh a l r d) (k : Nat) : apA a l r d k ≤ 1000 * apO l r d k := by
  have i := apT_inv (a := a) (l := l) (r := r) (d := d) k
  have t := apT_nonneg h k
  have q := aO_le h k
  unfold isCh at h
  have := Int.mul_nonneg (show 0 ≤ l + r by omega) t
  omega
theorem lrT_le {a l r d : Int} (h : isCh a l r d) (k : Nat) : (l + r) * apT a l r d k ≤ 1000 * apO l r d k := by
  have i := apT_inv (a := a) (l := l) (r := r) (d := d) k
  have p := apA_pos h k
  have q := aO_le h k
  omega
theorem apT_le {a l r d : Int} (h : isCh a l r d) (k : Nat) : apT a l r d k ≤ 1000 * apO l r d k := by
  have q := lrT_le h k
  have t := apT_nonneg h k
  unfold isCh at h
  have := Int.mul_le_mul_of_nonneg_right (show 1 ≤ l + r by omega) t
  omega
theorem apP_eq {a l r d : Int} (k : Nat) : apP a l r d k = if k % 2 = 0 then l * apT a l r d k else a * apO l r d k - r * apT a l r d k := by
  induction k with
  | zero => simp [apP, apT]
  | succ k ih =>
    have i := apT_inv (a := a) (l := l) (r := r) (d := d) k
    simp only [apP, apT, apO]
    rw [ih]
    by_cases e : k % 2 = 0
    · have e1 : ¬ (k + 1) % 2 = 0 := by omega
      have eb : both l r d k = d + r := by unfold both; rw [if_pos e]
      rw [if_pos e, if_pos e, if_neg e1, eb]
      grind
    · have e1 : (k + 1) % 2 = 0 := by omega
      have eb : both l r d k = d + l := by unfold both; rw [if_neg e]
      rw [if_neg e, if_neg e, if_pos e1, eb]
      grind
theorem apP_range {a l r d : Int} (h : isCh a l r d) (k : Nat) : 0 ≤ apP a l r d k ∧ apP a l r d k ≤ 1000 * apO l r d k := by
  have i := apT_inv (a := a) (l := l) (r := r) (d := d) k
  have t := apT_nonneg h k
  have p := apA_pos h k
  have q := aO_le h k
  rw [apP_eq]
  unfold isCh at h
  have m1 := Int.mul_nonneg (show 0 ≤ l by omega) t
  have m2 := Int.mul_nonneg (show 0 ≤ r by omega) t
  have e : (l + r) * apT a l r d k = l * apT a l r d k + r * apT a l r d k := Int.add_mul _ _ _
  split <;> omega
theorem apQ_range {a l r d : Int} (h : isCh a l r d) (k : Nat) : 0 ≤ apQ a l r d k ∧ apQ a l r d k ≤ apT a l r d k := by
  induction k with
  | zero => exact ⟨Int.le_refl 0, Int.le_refl 0⟩
  | succ k ih =>
    have b := both_range h k
    have p := apA_pos h k
    simp only [apQ, apT]
    have m1 := Int.mul_nonneg ih.1 (show 0 ≤ both l r d k by omega)
    have m2 := Int.mul_le_mul_of_nonneg_right ih.2 (show 0 ≤ both l r d k by omega)
    split <;> omega
theorem low_eq {a b c d : Int} (hb : 0 < b) (hd : 0 < d) (h : a * d = c * b) : lowN a b = lowN c d ∧ lowD a b = lowD c d := by
  have s1 := low_scale a b d hd
  have s2 := low_scale c d b hb
  rw [← s1.1, ← s1.2, ← s2.1, ← s2.2, h, Int.mul_comm b d]
  exact ⟨rfl, rfl⟩
theorem low_cross (a b : Int) : lowN a b * b = a * lowD a b := by
  have e1 := Int.ediv_mul_cancel (Int.gcd_dvd_left a b)
  have e2 := Int.ediv_mul_cancel (Int.gcd_dvd_right a b)
  unfold lowN lowD
  generalize a / (Int.gcd a b : Int) = u at *
  generalize b / (Int.gcd a b : Int) = v at *
  generalize (Int.gcd a b : Int) = g at *
  have : u * (v * g) = u * g * v := by rw [Int.mul_assoc, Int.mul_comm v g]
  rw [e1, e2] at this
  exact this
theorem low_nonneg {a b : Int} (ha : 0 ≤ a) (hb : 0 < b) : 0 ≤ lowN a b ∧ lowN a b ≤ a := by
  unfold lowN
  exact ⟨Int.ediv_nonneg ha (by omega), Int.ediv_le_self _ ha⟩
theorem tm_yes (i : Nat) (e : i % 2 = 0) : Int.tmod (i : Int) 2 = 0 := by
  rw [Int.tmod_eq_emod_of_nonneg (Int.natCast_nonneg i)]
  omega
theorem tm_no (i : Nat) (e : ¬ i % 2 = 0) : ¬ Int.tmod (i : Int) 2 = 0 := by
  rw [Int.tmod_eq_emod_of_nonneg (Int.natCast_nonneg i)]
  omega
theorem par_up (i : Nat) (e : i % 2 = 0) : ¬ (i + 1) % 2 = 0 := by omega
theorem par_down (i : Nat) (e : ¬ i % 2 = 0) : (i + 1) % 2 = 0 := by omega
def stAt (a l r d : Int) (k : Nat) : S70 := ⟨apT a l r d k, apP a l r d k, apA a l r d k, d * apQ a l r d k, apO l r d k⟩
theorem step_wraps {T P A Q O b s d : Int} (hT : 0 ≤ T ∧ T ≤ 163840000000000) (hP : 0 ≤ P ∧ P ≤ 163840000000000) (hA : 0 ≤ A ∧ A ≤ 163840000000000) (hQ : 0 ≤ Q ∧ Q ≤ 163840000000000)
    (hO : 0 ≤ O ∧ O ≤ 163840000000) (hb : 0 ≤ b ∧ b ≤ 40) (hs : 0 ≤ s ∧ s ≤ 20) (hd : 0 ≤ d ∧ d ≤ 20) :
    wrap64 (T * b) = T * b ∧ wrap64 (T * b + A) = T * b + A ∧ wrap64 (P * b) = P * b ∧ wrap64 (d * A) = d * A ∧ wrap64 (P * b + d * A) = P * b + d * A ∧ wrap64 (-d * A) = -d * A ∧ wrap64 (P * b + -d * A) = P * b + -d * A ∧
    wrap64 (A * s) = A * s ∧ wrap64 (d * Q * b) = d * Q * b ∧ wrap64 (d * Q * b + d * A) = d * Q * b + d * A ∧ wrap64 (d * Q * b + 0 * A) = d * Q * b + 0 * A ∧ wrap64 (O * b) = O * b ∧ wrap64 (0 * A) = 0 * A := by
  have pb := bm hP hb
  have da := bm hd hA
  have dq := bm (bm hd hQ) hb
  have en : -d * A = -(d * A) := Int.neg_mul _ _
  refine ⟨w64b (bm hT hb) (by decide), w64b (ad (bm hT hb) hA) (by decide), w64b pb (by decide), w64b da (by decide), w64b (ad pb da) (by decide), ?_, ?_, w64b (bm hA hs) (by decide), w64b dq (by decide), w64b (ad dq da) (by decide), ?_, w64b (bm hO hb) (by decide), ?_⟩
  · rw [en]
    exact w64 ⟨by omega, by omega⟩
  · rw [en]
    exact w64 ⟨by omega, by omega⟩
  · rw [Int.zero_mul, Int.add_zero]
    exact w64b dq (by decide)
  · rw [Int.zero_mul]
    exact w64 ⟨by decide, by decide⟩
theorem st_ranges {a l r d : Int} (h : isCh a l r d) (i : Nat) (hi : i ≤ 7) : (0 ≤ apT a l r d i ∧ apT a l r d i ≤ 163840000000000) ∧ (0 ≤ apP a l r d i ∧ apP a l r d i ≤ 163840000000000) ∧ (0 ≤ apA a l r d i ∧ apA a l r d i ≤ 163840000000000) ∧
    (0 ≤ apQ a l r d i ∧ apQ a l r d i ≤ 163840000000000) ∧ (0 ≤ apO l r d i ∧ apO l r d i ≤ 163840000000) := by
  have o1 := apO_pos h i
  have o2 := apO_le7 h i hi
  have t1 := apT_nonneg h i
  have t2 := apT_le h i
  have p1 := apP_range h i
  have q1 := apQ_range h i
  have a1 := apA_pos h i
  have a2 := apA_le h i
  generalize apT a l r d i = T at *
  generalize apP a l r d i = P at *
  generalize apA a l r d i = A at *
  generalize apQ a l r d i = Q at *
  generalize apO l r d i = O at *
  clear h
  refine ⟨⟨?_, ?_⟩, ⟨?_, ?_⟩, ⟨?_, ?_⟩, ⟨?_, ?_⟩, ⟨?_, ?_⟩⟩ <;> omega
theorem spec_doRun_l0 (a l r d : Int) (h : isCh a l r d) (n : Nat) (hn : n ≤ 7) (q : Nat) : ∀ (k i : Nat), i + q = n → q < k →
    spec_doRun.l0 k (n : Int) ((List.range (i + 1)).map (stAt a l r d)) ((i + 1 : Nat) : Int) a l r d (apT a l r d i) (apP a l r d i) (apA a l r d i) (d * apQ a l r d i) (apO l r d i) = some ((List.range (n + 1)).map (stAt a l r d)) := by
  have g := h
  unfold isCh at g
  have hd : 0 ≤ d ∧ d ≤ 20 := by omega
  have w1 : wrap64 (d + r) = d + r := w64 (by omega)
  have w2 : wrap64 (d + r - l) = d + r - l := w64 (by omega)
  have w3 : wrap64 (d + r - l - r) = d + r - l - r := w64 (by omega)
  have w4 : wrap64 (d + l) = d + l := w64 (by omega)
  have w5 : wrap64 (d + l - l) = d + l - l := w64 (by omega)
  have w6 : wrap64 (d + l - l - r) = d + l - l - r := w64 (by omega)
  have w7 : wrap64 (-d) = -d := w64 (by omega)
  have z0 : (if (0 : Int) > d then (0 : Int) else d) = d := if_neg (by omega)
  have z1 : (if (0 : Int) > -d then (0 : Int) else -d) = 0 := if_pos (by omega)
  have r1 : 0 ≤ d + r ∧ d + r ≤ 40 := by omega
  have r2 : 0 ≤ d + l ∧ d + l ≤ 40 := by omega
  have r3 : 0 ≤ d + r - l - r ∧ d + r - l - r ≤ 20 := by omega
  have r4 : 0 ≤ d + l - l - r ∧ d + l - l - r ≤ 20 := by omega
  clear g
  induction q with
  | zero =>
    intro k i hi hk
    obtain ⟨k, rfl⟩ : ∃ m, k = m + 1 := ⟨k - 1, by omega⟩
    obtain rfl : i = n := by omega
    simp only [spec_doRun.l0]
    rw [if_neg (by omega)]
  | succ q ih =>
    intro k i hi hk
    obtain ⟨k, rfl⟩ : ∃ m, k = m + 1 := ⟨k - 1, by omega⟩
    have next := ih k (i + 1) (by omega) (by omega)
    obtain ⟨hT, hP, hA, hQ, hO⟩ := st_ranges h i (by omega)
    have hlen : ((List.range (i + 1)).map (stAt a l r d)).length < 3518437208883 := by
      simp only [List.length_map, List.length_range]
      omega
    have hx : wrap64 (((i + 1 : Nat) : Int) + 1) = ((i + 1 + 1 : Nat) : Int) := by
      rw [w64 (by omega)]
      rfl
    have hle : ((i + 1 : Nat) : Int) ≤ (n : Int) := by omega
    have hcons : (List.range (i + 1)).map (stAt a l r d) ++ [stAt a l r d (i + 1)] = (List.range (i + 1 + 1)).map (stAt a l r d) := by
      rw [List.range_succ (n := i + 1), List.map_append]
      rfl
    rw [← hcons] at next
    simp only [spec_doRun.l0]
    rw [if_pos hle, hx]
    by_cases e : i % 2 = 0
    · have eb : both l r d i = d + r := by unfold both; rw [if_pos e]
      have tm := tm_no (i + 1) (par_up i e)
      obtain ⟨x1, x2, x3, x4, x5, x6, x7, x8, x9, x10, x11, x12, x13⟩ := step_wraps hT hP hA hQ hO r1 r3 hd
      have eT : apT a l r d (i + 1) = apT a l r d i * (d + r) + apA a l r d i := by rw [← eb]; rfl
      have eP : apP a l r d (i + 1) = apP a l r d i * (d + r) + d * apA a l r d i := by
        rw [← eb]
        show _ + (if i % 2 = 0 then d else -d) * _ = _
        rw [if_pos e]
      have eA : apA a l r d (i + 1) = apA a l r d i * (d + r - l - r) := by rw [← eb]; rfl
      have eO : apO l r d (i + 1) = apO l r d i * (d + r) := by rw [← eb]; rfl
      have eR : d * apQ a l r d (i + 1) = d * apQ a l r d i * (d + r) + d * apA a l r d i := by
        rw [← eb]
        show d * (_ + (if i % 2 = 0 then apA a l r d i else 0)) = _
        rw [if_pos e, Int.mul_add, Int.mul_assoc]
      rw [if_neg tm, spec_l1Most_eq]
      simp only [Option.bind_some]
      rw [if_pos hlen, z0, w1, w2, w3, x1, x3, x4, x9, x2, x5, x8, x10, x12, ← eT, ← eP, ← eA, ← eO, ← eR]
      exact next
    · have eb : both l r d i = d + l := by unfold both; rw [if_neg e]
      have tm := tm_yes (i + 1) (par_down i e)
      obtain ⟨x1, x2, x3, x4, x5, x6, x7, x8, x9, x10, x11, x12, x13⟩ := step_wraps hT hP hA hQ hO r2 r4 hd
      have eT : apT a l r d (i + 1) = apT a l r d i * (d + l) + apA a l r d i := by rw [← eb]; rfl
      have eP : apP a l r d (i + 1) = apP a l r d i * (d + l) + -d * apA a l r d i := by
        rw [← eb]
        show _ + (if i % 2 = 0 then d else -d) * _ = _
        rw [if_neg e]
      have eA : apA a l r d (i + 1) = apA a l r d i * (d + l - l - r) := by rw [← eb]; rfl
      have eO : apO l r d (i + 1) = apO l r d i * (d + l) := by rw [← eb]; rfl
      have eR : d * apQ a l r d (i + 1) = d * apQ a l r d i * (d + l) + 0 * apA a l r d i := by
        rw [← eb]
        show d * (_ + (if i % 2 = 0 then apA a l r d i else 0)) = _
        rw [if_neg e, Int.mul_add, Int.mul_assoc, Int.mul_zero, Int.zero_mul]
      rw [if_pos tm, w7, spec_l1Most_eq]
      simp only [Option.bind_some]
      rw [if_pos hlen, z1, w4, w5, w6, x1, x3, x6, x9, x13, x2, x7, x8, x11, x12, ← eT, ← eP, ← eA, ← eO, ← eR]
      exact next
theorem spec_doRun_eq (a l r d : Int) (h : isCh a l r d) (n : Nat) (hn : n ≤ 7) (k : Nat) (hk : 10 < k) : spec_doRun.f k a l r d (n : Int) = some ((List.range (n + 1)).map (stAt a l r d)) := by
  have := spec_doRun_l0 a l r d h n hn n k 0 (by omega) (by omega)
  unfold spec_doRun.f
  simpa [apT, apP, apA, apQ, apO, stAt] using this
theorem rd_st (a l r d : Int) (n i : Nat) (h : i ≤ n) : rd_T70 ((List.range (n + 1)).map (stAt a l r d)) (i : Int) = stAt a l r d i := by
  have : i < n + 1 := by omega
  simp [rd_T70, this]

theorem spec_l1Abs_eq (a : Int) (h : -9223372036854775807 ≤ a ∧ a ≤ 9223372036854775807) : spec_l1Abs.f a = some (Int.natAbs a : Int) := by
  unfold spec_l1Abs.f
  rw [w64 (by omega), spec_l1Most_eq]
  simp only [Option.bind_some, Option.some.injEq]
  split <;> omega

theorem spec_meLow_l0 (a0 b0 : Int) (h0 : 0 < b0) (ha0 : -9223372036854775807 ≤ a0 ∧ a0 ≤ 9223372036854775807) (hb0 : b0 ≤ 9223372036854775807) (n : Nat) :
    ∀ (k : Nat) (a b : Int), 0 ≤ a → 0 ≤ b → b ≤ n → n < k → Int.gcd a b = Int.gcd a0 b0 → spec_meLow.l0 k a0 b0 a b = some (lowN a0 b0, lowD a0 b0) := by
  have fin : ∀ (k : Nat) (a : Int), 0 ≤ a → Int.gcd a 0 = Int.gcd a0 b0 → spec_meLow.l0 (k + 1) a0 b0 a 0 = some (lowN a0 b0, lowD a0 b0) := by
    intro k a ha e
    have hg : a = (Int.gcd a0 b0 : Int) := by rw [Int.gcd_zero_right] at e; omega
    have gp := gpos (a := a0) h0
    have r1 := low_range (a := a0) h0 ha0
    have r2 := lowD_range (a := a0) h0
    simp only [spec_meLow.l0]
    rw [if_neg (by omega), if_neg (by omega), hg, tdiv_gcd_l, tdiv_gcd_r, w64 (by omega), w64 (by omega)]
  induction n with
  | zero =>
    intro k a b ha hb hn hk e
    obtain ⟨k, rfl⟩ : ∃ m, k = m + 1 := ⟨k - 1, by omega⟩
    obtain rfl : b = 0 := by omega
    exact fin k a ha e
  | succ n ih =>
    intro k a b ha hb hn hk e
    obtain ⟨k, rfl⟩ : ∃ m, k = m + 1 := ⟨k - 1, by omega⟩
    by_cases h : b > 0
    · simp only [spec_meLow.l0]
      rw [if_pos h, if_neg (by omega)]
      have h1 : 0 ≤ a.tmod b := Int.tmod_nonneg b ha
      have h2 : a.tmod b < b := Int.tmod_lt_of_pos a h
      exact ih k b (a.tmod b) hb h1 (by omega) (by omega) ((gcd_step a b ha hb).trans e)
    · obtain rfl : b = 0 := by omega
      exact fin k a ha e
theorem spec_meLow_eq (k : Nat) (a b : Int) (hb : 0 < b) (ha : -9223372036854775807 ≤ a ∧ a ≤ 9223372036854775807) (hbb : b ≤ 9223372036854775807) (hk : b + 1 < k) :
    spec_meLow.f k a b = some (lowN a b, lowD a b) := by
  obtain ⟨k, rfl⟩ : ∃ m, k = m + 1 := ⟨k - 1, by omega⟩
  unfold spec_meLow.f
  rw [if_neg (by omega)]
  simp only [spec_meLow.j0]
  rw [spec_l1Abs_eq a ha]
  simp only [Option.bind_some]
  exact spec_meLow_l0 a b hb ha hbb b.toNat k _ b (by omega) (by omega) (by omega) (by omega) (by rw [Int.gcd, Int.gcd, Int.natAbs_natCast])

def dogRow (a l r d : Int) (k : Nat) : List Int := [lowN (apT a l r d k) (apO l r d k), lowD (apT a l r d k) (apO l r d k), lowN (apP a l r d k) (apO l r d k), lowD (apP a l r d k) (apO l r d k)]
/-- the rows of the turns 1, 2, .. -/
def dogRows (a l r d : Int) (n : Nat) : List (List Int) := (List.range n).map fun j => dogRow a l r d (j + 1)
theorem dogRows_length (a l r d : Int) (n : Nat) : (dogRows a l r d n).length = n := by simp [dogRows]
theorem dogRows_succ (a l r d : Int) (n : Nat) : dogRows a l r d (n + 1) = dogRows a l r d n ++ [dogRow a l r d (n + 1)] := by
  unfold dogRows
  rw [List.range_succ, List.map_append]
  rfl
theorem spec_DogTurns_l (a l r d : Int) (h : isCh a l r d) (n : Nat) (hn : n ≤ 6) (k : Nat) (hk : (1000000000000 : Int) < k) (q : Nat) : ∀ i : Nat, i + q = n →
    spec_DogTurns.l k (((List.range (n + 1)).map (stAt a l r d)).drop 1) q (i : Int) (dogRows a l r d i) = some (dogRows a l r d n) := by
  induction q with
  | zero =>
    intro i hi
    obtain rfl : i = n := by omega
    rfl
  | succ q ih =>
    intro i hi
    have er : rd_T70 (((List.range (n + 1)).map (stAt a l r d)).drop 1) (i : Int) = stAt a l r d (i + 1) := by
      have h1 : i + 1 < n + 1 := by omega
      simp [rd_T70, h1, Nat.add_comm 1 i]
    obtain ⟨hT, hP, hA, hQ, hO⟩ := st_ranges h (i + 1) (by omega)
    have o1 := apO_pos h (i + 1)
    have m1 := spec_meLow_eq k (apT a l r d (i + 1)) (apO l r d (i + 1)) (by omega) ⟨by omega, by omega⟩ (by omega) (by omega)
    have m2 := spec_meLow_eq k (apP a l r d (i + 1)) (apO l r d (i + 1)) (by omega) ⟨by omega, by omega⟩ (by omega) (by omega)
    have next := ih (i + 1) (by omega)
    rw [dogRows_succ] at next
    simp only [spec_DogTurns.l, er]
    show ((spec_meLow.f k (apT a l r d (i + 1)) (apO l r d (i + 1))).bind fun p => (spec_meLow.f k (apP a l r d (i + 1)) (apO l r d (i + 1))).bind fun q_ => _) = _
    rw [m1]
    simp only [Option.bind_some]
    rw [m2]
    exact next
theorem spec_DogTurns_yes (a l r d : Int) (h : isCh a l r d) (n : Nat) (hn : 1 ≤ n ∧ n ≤ 6) (k : Nat) (hk : (1000000000000 : Int) < k) : spec_DogTurns.f k a l r d (n : Int) = some (dogRows a l r d n, true) := by
  have hn1 : 1 ≤ (n : Int) ∧ (n : Int) ≤ 6 := by omega
  simp only [spec_DogTurns.f, spec_doGood_yes a l r d h, spec_l1In_eq, Option.bind_some, decide_eq_true hn1, if_true]
  rw [spec_doRun_eq a l r d h n (by omega) k (by omega)]
  simp only [Option.bind_some]
  have hlen : ((List.range (n + 1)).map (stAt a l r d)).length = n + 1 := by simp
  rw [if_pos (by omega)]
  have := spec_DogTurns_l a l r d h n (by omega) k hk n 0 (by omega)
  have hl : (((List.range (n + 1)).map (stAt a l r d)).drop 1).length = n := by rw [List.length_drop, hlen]; omega
  rw [hl]
  rw [show spec_DogTurns.l k (((List.range (n + 1)).map (stAt a l r d)).drop 1) n 0 [] = some (dogRows a l r d n) from this]
  rfl
theorem spec_DogTurns_no (a l r d t : Int) (wd : -9223372036854775808 ≤ d ∧ d ≤ 9223372036854775807) (h : ¬ (isCh a l r d ∧ 1 ≤ t ∧ t ≤ 6)) (k : Nat) : spec_DogTurns.f k a l r d t = some ([], false) := by
  by_cases g : isCh a l r d
  · have ht : ¬ (1 ≤ t ∧ t ≤ 6) := fun z => h ⟨g, z⟩
    simp only [spec_DogTurns.f, spec_doGood_yes a l r d g, spec_l1In_eq, Option.bind_some, decide_eq_false ht, if_true, Bool.false_eq_true, if_false]
  · simp only [spec_DogTurns.f, spec_doGood_no a l r d wd g, Option.bind_some, Bool.false_eq_true, if_false]

theorem impl_within_eq (a b c : Int) : impl_within.f a b c = some (decide (b ≤ a ∧ a ≤ c)) := by
  unfold impl_within.f
  by_cases h : b ≤ a <;> simp [h]

theorem impl_IsChase_no (a l r d : Int) (h : ¬ isCh a l r d) : impl_IsChase.f a l r d = some false := by
  unfold isCh at h
  simp only [impl_IsChase.f, impl_within_eq, Option.bind_some]
  by_cases h1 : 1 ≤ a ∧ a ≤ 1000
  · by_cases h2 : 0 ≤ l ∧ l ≤ 20
    · by_cases h3 : 0 ≤ r ∧ r ≤ 20
      · simp only [h1, h2, h3, and_self, decide_true, if_true]
        rw [w64 (by omega)]
        by_cases h4 : l + r > 0
        · rw [if_pos h4]
          by_cases h5 : d > mx l r
          · rw [if_pos h5]
            unfold mx at h5
            simp only [Option.some.injEq, decide_eq_false_iff_not]
            split at h5 <;> omega
          · rw [if_neg h5]
        · rw [if_neg h4]
      · simp [h1, h2, h3]
    · simp [h1, h2]
  · simp [h1]
theorem impl_IsChase_yes (a l r d : Int) (h : isCh a l r d) : impl_IsChase.f a l r d = some true := by
  unfold isCh at h
  obtain ⟨h1, h2, h3, h4, h5, h6, h7⟩ := h
  simp only [impl_IsChase.f, impl_within_eq, Option.bind_some, h1, h2, h3, and_self, decide_true, if_true]
  rw [w64 (by omega), if_pos (show l + r > 0 by omega), if_pos (show d > mx l r by unfold mx; split <;> omega)]
  simp [h7]

theorem impl_isTurn_eq (a : Int) : impl_isTurn.f a = some (decide (1 ≤ a ∧ a ≤ 6)) := by
  simp only [impl_isTurn.f, impl_within_eq, Option.bind_some]

theorem impl_divisorOf_l0 (n : Nat) : ∀ (k : Nat) (a b : Int), 0 ≤ a → 0 ≤ b → b ≤ n → n < k → impl_divisorOf.l0 k a b = some (Int.gcd a b : Int) := by
  induction n with
  | zero =>
    intro k a b ha hb hn hk
    obtain ⟨k, rfl⟩ : ∃ m, k = m + 1 := ⟨k - 1, by omega⟩
    obtain rfl : b = 0 := by omega
    simp only [impl_divisorOf.l0]
    rw [if_neg (by omega), Int.gcd_zero_right]
    congr 1
    omega
  | succ n ih =>
    intro k a b ha hb hn hk
    obtain ⟨k, rfl⟩ : ∃ m, k = m + 1 := ⟨k - 1, by omega⟩
    simp only [impl_divisorOf.l0]
    by_cases h : b > 0
    · rw [if_pos h, if_neg (by omega)]
      have h1 : 0 ≤ a.tmod b := Int.tmod_nonneg b ha
      have h2 : a.tmod b < b := Int.tmod_lt_of_pos a h
      rw [ih k b (a.tmod b) hb h1 (by omega) (by omega), gcd_step a b ha hb]
    · obtain rfl : b = 0 := by omega
      rw [if_neg h, Int.gcd_zero_right]
      congr 1
      omega
theorem impl_divisorOf_eq (k : Nat) (a b : Int) (ha : 0 ≤ a) (hb : 0 ≤ b) (hk : b < k) : impl_divisorOf.f k a b = some (Int.gcd a b : Int) := by
  unfold impl_divisorOf.f
  exact impl_divisorOf_l0 b.toNat k a b ha hb (by omega) (by omega)

theorem impl_absOf_eq (a : Int) (h : -9223372036854775807 ≤ a ∧ a ≤ 9223372036854775807) : impl_absOf.f a = some (Int.natAbs a : Int) := by
  unfold impl_absOf.f mx
  rw [w64 (by omega)]
  simp only [Option.some.injEq]
  split <;> omega

theorem impl_lowest_eq (k : Nat) (a b : Int) (hb : 0 < b) (ha : -9223372036854775807 ≤ a ∧ a ≤ 9223372036854775807) (hbb : b ≤ 9223372036854775807) (hk : -(k : Int) < a ∧ a < k) :
    impl_lowest.f k a b = some (lowN a b, lowD a b) := by
  unfold impl_lowest.f
  rw [if_neg (by omega), impl_absOf_eq a ha]
  simp only [Option.bind_some]
  rw [impl_divisorOf_eq k b _ (by omega) (by omega) (by omega)]
  have e : Int.gcd b (a.natAbs : Int) = Int.gcd a b := by
    rw [Int.gcd_comm, Int.gcd, Int.gcd, Int.natAbs_natCast]
  have gp := gpos (a := a) hb
  have r1 := low_range (a := a) hb ha
  have r2 := lowD_range (a := a) hb
  simp only [Option.bind_some, e]
  rw [if_neg (by omega), tdiv_gcd_l, tdiv_gcd_r, w64 (by omega), w64 (by omega)]

theorem impl_apartAt_l0 (a l r d : Int) (h : isCh a l r d) (n : Nat) (hn : n ≤ 7) (q : Nat) : ∀ (k i : Nat), i + q = n → q < k →
    impl_apartAt.l0 k (apA a l r d i) (apO l r d i) (n : Int) (i : Int) a l r d = some (apA a l r d n, apO l r d n) := by
  have g := h
  unfold isCh at g
  have w1 : wrap64 (d + r) = d + r := w64 (by omega)
  have w2 : wrap64 (d - l) = d - l := w64 (by omega)
  have w4 : wrap64 (d + l) = d + l := w64 (by omega)
  have w5 : wrap64 (d - r) = d - r := w64 (by omega)
  have r1 : 0 ≤ d + r ∧ d + r ≤ 40 := by omega
  have r2 : 0 ≤ d + l ∧ d + l ≤ 40 := by omega
  have r3 : 0 ≤ d - l ∧ d - l ≤ 20 := by omega
  have r4 : 0 ≤ d - r ∧ d - r ≤ 20 := by omega
  have ez1 : d + r - l - r = d - l := by omega
  have ez2 : d + l - l - r = d - r := by omega
  clear g
  induction q with
  | zero =>
    intro k i hi hk
    obtain ⟨k, rfl⟩ : ∃ m, k = m + 1 := ⟨k - 1, by omega⟩
    obtain rfl : i = n := by omega
    simp only [impl_apartAt.l0]
    rw [if_neg (by omega)]
  | succ q ih =>
    intro k i hi hk
    obtain ⟨k, rfl⟩ : ∃ m, k = m + 1 := ⟨k - 1, by omega⟩
    have next := ih k (i + 1) (by omega) (by omega)
    have o1 := apO_pos h i
    have o2 := apO_le7 h i (by omega)
    have a1 := apA_pos h i
    have a2 := apA_le h i
    have hO : 0 ≤ apO l r d i ∧ apO l r d i ≤ 163840000000 := ⟨Int.le_trans (by decide) o1, o2⟩
    have hA : 0 ≤ apA a l r d i ∧ apA a l r d i ≤ 163840000000000 := ⟨Int.le_trans (by decide) a1, Int.le_trans a2 (Int.mul_le_mul_of_nonneg_left o2 (by decide))⟩
    have hx : wrap64 ((i : Int) + 1) = ((i + 1 : Nat) : Int) := by
      rw [w64 (by omega)]
      rfl
    have hlt : (i : Int) < (n : Int) := by omega
    simp only [impl_apartAt.l0]
    rw [if_pos hlt, hx]
    by_cases e : i % 2 = 0
    · have eb : both l r d i = d + r := by unfold both; rw [if_pos e]
      have tm := tm_yes i e
      have eA : apA a l r d (i + 1) = apA a l r d i * (d - l) := by rw [← ez1, ← eb]; rfl
      have eO : apO l r d (i + 1) = apO l r d i * (d + r) := by rw [← eb]; rfl
      have x1 : wrap64 (apA a l r d i * (d - l)) = apA a l r d i * (d - l) := w64b (bm hA r3) (by decide)
      have x2 : wrap64 (apO l r d i * (d + r)) = apO l r d i * (d + r) := w64b (bm hO r1) (by decide)
      rw [if_pos tm, w1, w2, x1, x2, ← eA, ← eO]
      exact next
    · have eb : both l r d i = d + l := by unfold both; rw [if_neg e]
      have tm := tm_no i e
      have eA : apA a l r d (i + 1) = apA a l r d i * (d - r) := by rw [← ez2, ← eb]; rfl
      have eO : apO l r d (i + 1) = apO l r d i * (d + l) := by rw [← eb]; rfl
      have x1 : wrap64 (apA a l r d i * (d - r)) = apA a l r d i * (d - r) := w64b (bm hA r4) (by decide)
      have x2 : wrap64 (apO l r d i * (d + l)) = apO l r d i * (d + l) := w64b (bm hO r2) (by decide)
      rw [if_neg tm, w4, w5, x1, x2, ← eA, ← eO]
      exact next
theorem impl_apartAt_eq (a l r d : Int) (h : isCh a l r d) (n : Nat) (hn : n ≤ 7) (k : Nat) (hk : 10 < k) : impl_apartAt.f k a l r d (n : Int) = some (apA a l r d n, apO l r d n) := by
  have := impl_apartAt_l0 a l r d h n hn n k 0 (by omega) (by omega)
  unfold impl_apartAt.f
  simpa [apA, apO] using this

theorem impl_turnTime_eq (a l r d : Int) (h : isCh a l r d) (n : Nat) (hn : n ≤ 7) (k : Nat) (hk : (1000000000000000000 : Int) < k) : impl_turnTime.f k a l r d (n : Int) = some (lowN (apT a l r d n) (apO l r d n), lowD (apT a l r d n) (apO l r d n)) := by
  have inv := apT_inv (a := a) (l := l) (r := r) (d := d) n
  obtain ⟨hT, hP, hA, hQ, hO⟩ := st_ranges h n hn
  have o1 := apO_pos h n
  have g := h
  unfold isCh at g
  have sc := low_scale (apT a l r d n) (apO l r d n) (l + r) (by omega)
  unfold impl_turnTime.f
  rw [impl_apartAt_eq a l r d h n hn k (by omega)]
  simp only [Option.bind_some]
  have p1 := bm (A := 1000) (B := 163840000000) (a := a) (b := apO l r d n) (by omega) hO
  have p2 := bm (A := 163840000000) (B := 40) (a := apO l r d n) (b := l + r) hO (by omega)
  have p3 : 0 < apO l r d n * (l + r) := Int.mul_pos (by omega) (by omega)
  have e1 : a * apO l r d n - apA a l r d n = apT a l r d n * (l + r) := by
    rw [← inv, Int.mul_comm (l + r)]
    omega
  have p4 : -163840000000000 ≤ apT a l r d n * (l + r) ∧ apT a l r d n * (l + r) ≤ 163840000000000 := by omega
  rw [w64 (x := a * apO l r d n) ⟨by omega, by omega⟩, e1, w64 (x := l + r) ⟨by omega, by omega⟩, w64 (x := apT a l r d n * (l + r)) ⟨by omega, by omega⟩, w64 (x := apO l r d n * (l + r)) ⟨by omega, by omega⟩,
    impl_lowest_eq _ _ _ p3 ⟨by omega, by omega⟩ (by omega) ⟨by omega, by omega⟩, sc.1, sc.2]
  rfl

/-- the dog's place at a turn, out of the turn's time in lowest terms -/
theorem dog_place_low (a l r d : Int) (h : isCh a l r d) (i : Nat) (hi : i ≤ 5) (e : i % 2 = 0) :
    lowN (a * lowD (apT a l r d (i + 1)) (apO l r d (i + 1)) - r * lowN (apT a l r d (i + 1)) (apO l r d (i + 1))) (lowD (apT a l r d (i + 1)) (apO l r d (i + 1))) = lowN (apP a l r d (i + 1)) (apO l r d (i + 1)) ∧
    lowD (a * lowD (apT a l r d (i + 1)) (apO l r d (i + 1)) - r * lowN (apT a l r d (i + 1)) (apO l r d (i + 1))) (lowD (apT a l r d (i + 1)) (apO l r d (i + 1))) = lowD (apP a l r d (i + 1)) (apO l r d (i + 1)) := by
  have o1 := apO_pos h (i + 1)
  have c2 := lowD_range (a := apT a l r d (i + 1)) (b := apO l r d (i + 1)) (by omega)
  have cc := low_cross (apT a l r d (i + 1)) (apO l r d (i + 1))
  have ep : apP a l r d (i + 1) = a * apO l r d (i + 1) - r * apT a l r d (i + 1) := by rw [apP_eq, if_neg (par_up i e)]
  refine low_eq (by omega) (by omega) ?_
  rw [ep]
  generalize apT a l r d (i + 1) = T at *
  generalize apO l r d (i + 1) = O at *
  generalize lowN T O = x at *
  generalize lowD T O = y at *
  have : r * x * O = r * T * y := by rw [Int.mul_assoc, cc, Int.mul_assoc]
  rw [Int.sub_mul, Int.sub_mul, this, Int.mul_right_comm]
theorem dog_place_low2 (a l r d : Int) (h : isCh a l r d) (i : Nat) (hi : i ≤ 5) (e : ¬ i % 2 = 0) :
    lowN (l * lowN (apT a l r d (i + 1)) (apO l r d (i + 1))) (lowD (apT a l r d (i + 1)) (apO l r d (i + 1))) = lowN (apP a l r d (i + 1)) (apO l r d (i + 1)) ∧
    lowD (l * lowN (apT a l r d (i + 1)) (apO l r d (i + 1))) (lowD (apT a l r d (i + 1)) (apO l r d (i + 1))) = lowD (apP a l r d (i + 1)) (apO l r d (i + 1)) := by
  have o1 := apO_pos h (i + 1)
  have c2 := lowD_range (a := apT a l r d (i + 1)) (b := apO l r d (i + 1)) (by omega)
  have cc := low_cross (apT a l r d (i + 1)) (apO l r d (i + 1))
  have ep : apP a l r d (i + 1) = l * apT a l r d (i + 1) := by rw [apP_eq, if_pos (par_down i e)]
  refine low_eq (by omega) (by omega) ?_
  rw [ep, Int.mul_assoc, cc, Int.mul_assoc]
theorem impl_DogTurns_l0 (a l r d : Int) (h : isCh a l r d) (n : Nat) (hn : n ≤ 6) (q : Nat) : ∀ (k i : Nat), i + q = n → (1000000000000000000 : Int) + q < k →
    impl_DogTurns.l0 k (dogRows a l r d i ++ List.replicate q []) (n : Int) (i : Int) a l r d = some (dogRows a l r d n, true) := by
  induction q with
  | zero =>
    intro k i hi hk
    obtain ⟨k, rfl⟩ : ∃ m, k = m + 1 := ⟨k - 1, by omega⟩
    obtain rfl : i = n := by omega
    simp only [impl_DogTurns.l0]
    rw [if_neg (by omega), List.replicate_zero, List.append_nil]
  | succ q ih =>
    intro k i hi hk
    obtain ⟨k, rfl⟩ : ∃ m, k = m + 1 := ⟨k - 1, by omega⟩
    have g := h
    unfold isCh at g
    have e1 : wrap64 ((i : Int) + 1) = ((i + 1 : Nat) : Int) := by rw [w64 (by omega)]; rfl
    have hset : (dogRows a l r d i ++ List.replicate (q + 1) []).set (i : Int).toNat (dogRow a l r d (i + 1)) = dogRows a l r d (i + 1) ++ List.replicate q [] := by
      rw [Int.toNat_natCast, List.set_append_right _ _ (by rw [dogRows_length]; exact Nat.le_refl _), dogRows_length, Nat.sub_self, dogRows_succ, List.append_assoc]
      rfl
    have hlen : ((dogRows a l r d i ++ List.replicate (q + 1) []).length : Int) = (n : Int) := by
      rw [List.length_append, dogRows_length, List.length_replicate]
      omega
    have next := ih k (i + 1) (by omega) (by omega)
    rw [← hset] at next
    obtain ⟨hT, hP, hA, hQ, hO⟩ := st_ranges h (i + 1) (by omega)
    have o1 := apO_pos h (i + 1)
    have c1 := low_nonneg (a := apT a l r d (i + 1)) (b := apO l r d (i + 1)) hT.1 (by omega)
    have c2 := lowD_range (a := apT a l r d (i + 1)) (b := apO l r d (i + 1)) (by omega)
    have cc := low_cross (apT a l r d (i + 1)) (apO l r d (i + 1))
    have same := low_eq (a := lowN (apT a l r d (i + 1)) (apO l r d (i + 1))) (b := lowD (apT a l r d (i + 1)) (apO l r d (i + 1))) (c := apT a l r d (i + 1)) (d := apO l r d (i + 1)) (by omega) (by omega) cc
    have m1 := impl_lowest_eq k (lowN (apT a l r d (i + 1)) (apO l r d (i + 1))) (lowD (apT a l r d (i + 1)) (apO l r d (i + 1))) (by omega) ⟨by omega, by omega⟩ (by omega) ⟨by omega, by omega⟩
    rw [same.1, same.2] at m1
    have p1 := bm (A := 1000) (B := 163840000000) (a := a) (b := lowD (apT a l r d (i + 1)) (apO l r d (i + 1))) (by omega) (by omega)
    have p2 := bm (A := 20) (B := 163840000000000) (a := r) (b := lowN (apT a l r d (i + 1)) (apO l r d (i + 1))) (by omega) (by omega)
    have p3 := bm (A := 20) (B := 163840000000000) (a := l) (b := lowN (apT a l r d (i + 1)) (apO l r d (i + 1))) (by omega) (by omega)
    simp only [impl_DogTurns.l0]
    rw [if_pos (by omega), e1, impl_turnTime_eq a l r d h (i + 1) (by omega) k (by omega)]
    simp only [Option.bind_some]
    by_cases e : i % 2 = 0
    · have s2 := dog_place_low a l r d h i (by omega) e
      rw [if_pos (tm_yes i e), m1]
      simp only [Option.bind_some]
      rw [w64 (x := a * lowD (apT a l r d (i + 1)) (apO l r d (i + 1))) ⟨by omega, by omega⟩, w64 (x := r * lowN (apT a l r d (i + 1)) (apO l r d (i + 1))) ⟨by omega, by omega⟩, w64 (x := a * lowD (apT a l r d (i + 1)) (apO l r d (i + 1)) - r * lowN (apT a l r d (i + 1)) (apO l r d (i + 1))) ⟨by omega, by omega⟩,
        impl_lowest_eq k _ _ (by omega) ⟨by omega, by omega⟩ (by omega) ⟨by omega, by omega⟩, s2.1, s2.2]
      simp only [Option.bind_some]
      rw [if_pos (by omega), if_pos (by omega)]
      exact next
    · have s2 := dog_place_low2 a l r d h i (by omega) e
      rw [if_neg (tm_no i e), m1]
      simp only [Option.bind_some]
      rw [w64 (x := l * lowN (apT a l r d (i + 1)) (apO l r d (i + 1))) ⟨by omega, by omega⟩, impl_lowest_eq k _ _ (by omega) ⟨by omega, by omega⟩ (by omega) ⟨by omega, by omega⟩, s2.1, s2.2]
      simp only [Option.bind_some]
      rw [if_pos (by omega), if_pos (by omega)]
      exact next
theorem impl_DogTurns_yes (a l r d : Int) (h : isCh a l r d) (n : Nat) (hn : 1 ≤ n ∧ n ≤ 6) (k : Nat) (hk : (1000000000000000010 : Int) < k) : impl_DogTurns.f k a l r d (n : Int) = some (dogRows a l r d n, true) := by
  obtain ⟨k, rfl⟩ : ∃ m, k = m + 1 := ⟨k - 1, by omega⟩
  have hn1 : 1 ≤ (n : Int) ∧ (n : Int) ≤ 6 := by omega
  simp only [impl_DogTurns.f, impl_IsChase_yes a l r d h, impl_isTurn_eq, Option.bind_some, decide_eq_true hn1, if_true, Bool.not_true, impl_DogTurns.j0, Bool.false_eq_true, if_false]
  rw [if_pos (by omega), if_pos (by omega), Int.toNat_natCast, List.length_replicate]
  have := impl_DogTurns_l0 a l r d h n (by omega) n k 0 (by omega) (by omega)
  simpa [dogRows] using this
theorem impl_DogTurns_no (a l r d t : Int) (h : ¬ (isCh a l r d ∧ 1 ≤ t ∧ t ≤ 6)) (k : Nat) (hk : 1 ≤ k) : impl_DogTurns.f k a l r d t = some ([], false) := by
  obtain ⟨k, rfl⟩ : ∃ m, k = m + 1 := ⟨k - 1, by omega⟩
  by_cases g : isCh a l r d
  · have ht : ¬ (1 ≤ t ∧ t ≤ 6) := fun z => h ⟨g, z⟩
    simp only [impl_DogTurns.f, impl_IsChase_yes a l r d g, impl_isTurn_eq, Option.bind_some, decide_eq_false ht, if_true, Bool.not_false, impl_DogTurns.j0]
  · simp only [impl_DogTurns.f, impl_IsChase_no a l r d g, Option.bind_some, Bool.false_eq_true, if_false, impl_DogTurns.j0, if_true]

theorem laws_eqIntS_l0 (l : List Int) (hl : l.length ≤ 1000000000) (d : Nat) : ∀ (k i : Nat), i + d = l.length → d < k → laws_eqIntS.l0 k l l (i : Int) = some true := by
  induction d with
  | zero =>
    intro k i hi hk
    obtain ⟨k, rfl⟩ : ∃ m, k = m + 1 := ⟨k - 1, by omega⟩
    simp only [laws_eqIntS.l0]
    rw [if_neg (by omega)]
  | succ d ih =>
    intro k i hi hk
    obtain ⟨k, rfl⟩ : ∃ m, k = m + 1 := ⟨k - 1, by omega⟩
    have e1 : wrap64 ((i : Int) + 1) = ((i + 1 : Nat) : Int) := by rw [w64 (by omega)]; rfl
    simp only [laws_eqIntS.l0, if_true]
    rw [if_pos (by omega), if_pos (by omega), if_pos (by omega), e1]
    exact ih k (i + 1) (by omega) (by omega)
theorem laws_eqIntS_eq (l : List Int) (hl : l.length ≤ 1000000000) (k : Nat) (hk : l.length < k) : laws_eqIntS.f k l l = some true := by
  unfold laws_eqIntS.f
  rw [if_pos rfl]
  exact laws_eqIntS_l0 l hl l.length k 0 (by omega) hk

/-- 1, 2, .. -/
def upto (n : Nat) : List Int := (List.range n).map fun (j : Nat) => (j : Int) + 1
theorem upto_length (n : Nat) : (upto n).length = n := by simp [upto]
theorem laws_markIntS_l0 (l : List Int) (hl : l.length ≤ 1000000000) (d : Nat) : ∀ (k i : Nat), i + d = l.length → d < k →
    laws_markIntS.l0 k (upto i ++ l.drop i) ((i : Int) + 1) (i : Int) = some ((l.length : Int) + 1, upto l.length) := by
  induction d with
  | zero =>
    intro k i hi hk
    obtain ⟨k, rfl⟩ : ∃ m, k = m + 1 := ⟨k - 1, by omega⟩
    obtain rfl : i = l.length := by omega
    simp only [laws_markIntS.l0]
    rw [List.drop_of_length_le (Nat.le_refl _), List.append_nil, upto_length, if_neg (by omega)]
  | succ d ih =>
    intro k i hi hk
    obtain ⟨k, rfl⟩ : ∃ m, k = m + 1 := ⟨k - 1, by omega⟩
    have hlt : i < l.length := by omega
    have hlen : (upto i ++ l.drop i).length = l.length := by
      rw [List.length_append, upto_length, List.length_drop]
      omega
    have e1 : wrap64 ((i : Int) + 1) = ((i + 1 : Nat) : Int) := by rw [w64 (by omega)]; rfl
    have e2 : wrap64 ((i : Int) + 1 + 1) = ((i + 1 : Nat) : Int) + 1 := by rw [w64 (by omega)]; rfl
    have es : (upto i ++ l.drop i).set (i : Int).toNat ((i : Int) + 1) = upto (i + 1) ++ l.drop (i + 1) := by
      rw [Int.toNat_natCast, List.set_append_right _ _ (by rw [upto_length]; exact Nat.le_refl _), upto_length, Nat.sub_self, List.drop_eq_getElem_cons hlt, List.set_cons_zero]
      unfold upto
      rw [List.range_succ, List.map_append, List.append_assoc]
      rfl
    simp only [laws_markIntS.l0]
    rw [hlen, if_pos (by omega), if_pos (by omega), e1, e2, es]
    exact ih k (i + 1) (by omega) (by omega)
theorem laws_markIntS_eq (l : List Int) (hl : l.length ≤ 1000000000) (k : Nat) (hk : l.length < k) : laws_markIntS.f k l 1 = some ((l.length : Int) + 1, upto l.length) := by
  unfold laws_markIntS.f
  exact laws_markIntS_l0 l hl l.length k 0 (by omega) hk

theorem laws_heldIntS_l0 (n : Nat) (hl : n ≤ 1000000000) (d : Nat) : ∀ (k i : Nat), i + d = n → d < k → laws_heldIntS.l0 k (upto n) ((i : Int) + 1) (i : Int) = some ((n : Int) + 1) := by
  induction d with
  | zero =>
    intro k i hi hk
    obtain ⟨k, rfl⟩ : ∃ m, k = m + 1 := ⟨k - 1, by omega⟩
    obtain rfl : i = n := by omega
    simp only [laws_heldIntS.l0]
    rw [upto_length, if_neg (by omega)]
  | succ d ih =>
    intro k i hi hk
    obtain ⟨k, rfl⟩ : ∃ m, k = m + 1 := ⟨k - 1, by omega⟩
    have hlt : i < n := by omega
    have e1 : wrap64 ((i : Int) + 1) = ((i + 1 : Nat) : Int) := by rw [w64 (by omega)]; rfl
    have e2 : wrap64 ((i : Int) + 1 + 1) = ((i + 1 : Nat) : Int) + 1 := by rw [w64 (by omega)]; rfl
    have er : rd (upto n) (i : Int) = (i : Int) + 1 := by simp [rd, upto, hlt]
    simp only [laws_heldIntS.l0]
    rw [upto_length, if_pos (by omega), if_pos (by omega), er, if_pos rfl, e1, e2]
    exact ih k (i + 1) (by omega) (by omega)
theorem laws_heldIntS_eq (n : Nat) (hl : n ≤ 1000000000) (k : Nat) (hk : n < k) : laws_heldIntS.f k (upto n) 1 = some ((n : Int) + 1) := by
  unfold laws_heldIntS.f
  exact laws_heldIntS_l0 n hl n k 0 (by omega) hk

theorem eqSS_l0 (L : List (List Int)) (hL : L.length ≤ 1000) (hr : ∀ x ∈ L, x.length ≤ 1000) (q : Nat) : ∀ (k i : Nat), i + q = L.length → q + 1000 < k → laws_eqIntSS.l0 k L L (i : Int) = some true := by
  induction q with
  | zero =>
    intro k i hi hk
    obtain ⟨k, rfl⟩ : ∃ m, k = m + 1 := ⟨k - 1, by omega⟩
    simp only [laws_eqIntSS.l0]
    rw [if_neg (by omega)]
  | succ q ih =>
    intro k i hi hk
    obtain ⟨k, rfl⟩ : ∃ m, k = m + 1 := ⟨k - 1, by omega⟩
    have hlt : i < L.length := by omega
    have e1 : wrap64 ((i : Int) + 1) = ((i + 1 : Nat) : Int) := by rw [w64 (by omega)]; rfl
    have er : ∀ z : List Int, L.getD (i : Int).toNat z = L[i] := fun z => by simp [hlt]
    have hl := hr L[i] (List.getElem_mem hlt)
    simp only [laws_eqIntSS.l0]
    rw [if_pos (by omega), if_pos (by omega), if_pos (by omega), e1]
    show ((laws_eqIntS.f k (L.getD (i : Int).toNat []) (L.getD (i : Int).toNat [])).bind fun t => _) = _
    rw [er, laws_eqIntS_eq L[i] (by omega) k (by omega)]
    simp only [Option.bind_some, if_true]
    exact ih k (i + 1) (by omega) (by omega)
theorem eqSS_eq (L : List (List Int)) (hL : L.length ≤ 1000) (hr : ∀ x ∈ L, x.length ≤ 1000) (k : Nat) (hk : 3000 < k) : laws_eqIntSS.f k L L = some true := by
  unfold laws_eqIntSS.f
  rw [if_pos rfl]
  exact eqSS_l0 L hL hr L.length k 0 (by omega) (by omega)
def marks4 (n : Nat) : List (List Int) := (List.range n).map fun (j : Nat) => [4 * (j : Int) + 1, 4 * (j : Int) + 2, 4 * (j : Int) + 3, 4 * (j : Int) + 4]
theorem marks4_length (n : Nat) : (marks4 n).length = n := by simp [marks4]
theorem marks4_succ (n : Nat) : marks4 (n + 1) = marks4 n ++ [[4 * (n : Int) + 1, 4 * (n : Int) + 2, 4 * (n : Int) + 3, 4 * (n : Int) + 4]] := by
  unfold marks4
  rw [List.range_succ, List.map_append]
  rfl
theorem mark_four (k : Nat) (hk : 5 ≤ k) (x y z u m : Int) (hm : 0 ≤ m ∧ m ≤ 1000) : laws_markIntS.f k [x, y, z, u] m = some (m + 4, [m, m + 1, m + 2, m + 3]) := by
  obtain ⟨k, rfl⟩ : ∃ q, k = q + 5 := ⟨k - 5, by omega⟩
  have e1 : wrap64 (m + 1) = m + 1 := w64 (by omega)
  have e2 : wrap64 (m + 1 + 1) = m + 2 := by rw [w64 (by omega)]; omega
  have e3 : wrap64 (m + 2 + 1) = m + 3 := by rw [w64 (by omega)]; omega
  have e4 : wrap64 (m + 3 + 1) = m + 4 := by rw [w64 (by omega)]; omega
  have f1 : wrap64 (1 : Int) = 1 := w64 (by omega)
  have f2 : wrap64 (2 : Int) = 2 := w64 (by omega)
  have f3 : wrap64 (3 : Int) = 3 := w64 (by omega)
  have f4 : wrap64 (4 : Int) = 4 := w64 (by omega)
  simp [laws_markIntS.f, laws_markIntS.l0, e1, e2, e3, e4, f1, f2, f3, f4]
theorem held_four (k : Nat) (hk : 5 ≤ k) (m : Int) (hm : 0 ≤ m ∧ m ≤ 1000) : laws_heldIntS.f k [m, m + 1, m + 2, m + 3] m = some (m + 4) := by
  obtain ⟨k, rfl⟩ : ∃ q, k = q + 5 := ⟨k - 5, by omega⟩
  have e1 : wrap64 (m + 1) = m + 1 := w64 (by omega)
  have e2 : wrap64 (m + 1 + 1) = m + 2 := by rw [w64 (by omega)]; omega
  have e3 : wrap64 (m + 2 + 1) = m + 3 := by rw [w64 (by omega)]; omega
  have e4 : wrap64 (m + 3 + 1) = m + 4 := by rw [w64 (by omega)]; omega
  have f1 : wrap64 (1 : Int) = 1 := w64 (by omega)
  have f2 : wrap64 (2 : Int) = 2 := w64 (by omega)
  have f3 : wrap64 (3 : Int) = 3 := w64 (by omega)
  have f4 : wrap64 (4 : Int) = 4 := w64 (by omega)
  simp [laws_heldIntS.f, laws_heldIntS.l0, rd, e1, e2, e3, e4, f1, f2, f3, f4]
theorem markSS_l0 (a l r d : Int) (n : Nat) (hn : n ≤ 6) (q : Nat) : ∀ (k i : Nat), i + q = n → q + 10 < k →
    laws_markIntSS.l0 k (marks4 i ++ (dogRows a l r d n).drop i) (4 * (i : Int) + 1) (i : Int) = some (4 * (n : Int) + 1, marks4 n) := by
  induction q with
  | zero =>
    intro k i hi hk
    obtain ⟨k, rfl⟩ : ∃ m, k = m + 1 := ⟨k - 1, by omega⟩
    obtain rfl : i = n := by omega
    simp only [laws_markIntSS.l0]
    rw [List.drop_of_length_le (by rw [dogRows_length]; exact Nat.le_refl _), List.append_nil, marks4_length, if_neg (by omega)]
  | succ q ih =>
    intro k i hi hk
    obtain ⟨k, rfl⟩ : ∃ m, k = m + 1 := ⟨k - 1, by omega⟩
    have hlt : i < (dogRows a l r d n).length := by rw [dogRows_length]; omega
    have hlen : (marks4 i ++ (dogRows a l r d n).drop i).length = n := by
      rw [List.length_append, marks4_length, List.length_drop, dogRows_length]
      omega
    have e1 : wrap64 ((i : Int) + 1) = ((i + 1 : Nat) : Int) := by rw [w64 (by omega)]; rfl
    have er : markRow (marks4 i ++ (dogRows a l r d n).drop i) (i : Int) = dogRow a l r d (i + 1) := by
      unfold markRow
      rw [List.getD_eq_getElem?_getD, Int.toNat_natCast, List.getElem?_append_right (by rw [marks4_length]; exact Nat.le_refl _), marks4_length, Nat.sub_self, List.drop_eq_getElem_cons hlt]
      simp [dogRows]
    have es : (marks4 i ++ (dogRows a l r d n).drop i).set (i : Int).toNat [4 * (i : Int) + 1, 4 * (i : Int) + 1 + 1, 4 * (i : Int) + 1 + 2, 4 * (i : Int) + 1 + 3] = marks4 (i + 1) ++ (dogRows a l r d n).drop (i + 1) := by
      rw [Int.toNat_natCast, List.set_append_right _ _ (by rw [marks4_length]; exact Nat.le_refl _), marks4_length, Nat.sub_self, List.drop_eq_getElem_cons hlt, List.set_cons_zero, marks4_succ, List.append_assoc, List.singleton_append]
      rw [show 4 * (i : Int) + 1 + 1 = 4 * (i : Int) + 2 by omega, show 4 * (i : Int) + 1 + 2 = 4 * (i : Int) + 3 by omega, show 4 * (i : Int) + 1 + 3 = 4 * (i : Int) + 4 by omega]
    have next := ih k (i + 1) (by omega) (by omega)
    simp only [laws_markIntSS.l0]
    rw [hlen, if_pos (by omega), if_pos (by omega), er]
    unfold dogRow
    rw [mark_four k (by omega) _ _ _ _ _ (by omega)]
    simp only [Option.bind_some]
    rw [e1, es, show 4 * (i : Int) + 1 + 4 = 4 * ((i + 1 : Nat) : Int) + 1 by omega]
    exact next
theorem heldSS_l0 (n : Nat) (hn : n ≤ 6) (q : Nat) : ∀ (k i : Nat), i + q = n → q + 10 < k → laws_heldIntSS.l0 k (marks4 n) (4 * (i : Int) + 1) (i : Int) = some (4 * (n : Int) + 1) := by
  induction q with
  | zero =>
    intro k i hi hk
    obtain ⟨k, rfl⟩ : ∃ m, k = m + 1 := ⟨k - 1, by omega⟩
    obtain rfl : i = n := by omega
    simp only [laws_heldIntSS.l0]
    rw [marks4_length, if_neg (by omega)]
  | succ q ih =>
    intro k i hi hk
    obtain ⟨k, rfl⟩ : ∃ m, k = m + 1 := ⟨k - 1, by omega⟩
    have hlt : i < n := by omega
    have e1 : wrap64 ((i : Int) + 1) = ((i + 1 : Nat) : Int) := by rw [w64 (by omega)]; rfl
    have er : (marks4 n).getD (i : Int).toNat [] = [4 * (i : Int) + 1, 4 * (i : Int) + 1 + 1, 4 * (i : Int) + 1 + 2, 4 * (i : Int) + 1 + 3] := by
      rw [show 4 * (i : Int) + 1 + 1 = 4 * (i : Int) + 2 by omega, show 4 * (i : Int) + 1 + 2 = 4 * (i : Int) + 3 by omega, show 4 * (i : Int) + 1 + 3 = 4 * (i : Int) + 4 by omega]
      simp [marks4, hlt]
    have next := ih k (i + 1) (by omega) (by omega)
    simp only [laws_heldIntSS.l0]
    rw [marks4_length, if_pos (by omega), if_pos (by omega)]
    show ((laws_heldIntS.f k ((marks4 n).getD (i : Int).toNat []) (4 * (i : Int) + 1)).bind fun t => _) = _
    rw [er, held_four k (by omega) _ (by omega)]
    simp only [Option.bind_some]
    rw [if_neg (by omega), e1, show 4 * (i : Int) + 1 + 4 = 4 * ((i + 1 : Nat) : Int) + 1 by omega]
    exact next
theorem dogRows_rows (a l r d : Int) (n : Nat) : ∀ x ∈ dogRows a l r d n, x.length ≤ 1000 := by
  intro x hx
  obtain ⟨j, _, rfl⟩ := List.mem_map.mp hx
  simp [dogRow]
theorem holds (a l r d t : Int) (_ : (Lit.int .i64 a).wf = true) (_ : (Lit.int .i64 l).wf = true) (_ : (Lit.int .i64 r).wf = true) (wd : (Lit.int .i64 d).wf = true) (_ : (Lit.int .i64 t).wf = true) : ∃ k, laws_FnExactDogTurns.f k a l r d t = some true := by
  obtain ⟨k, hk⟩ : ∃ k : Nat, (1000000000000000100 : Int) < k := ⟨1000000000000000101, by decide⟩
  refine ⟨k, ?_⟩
  by_cases h : isCh a l r d ∧ 1 ≤ t ∧ t ≤ 6
  · obtain ⟨n, rfl⟩ := Int.eq_ofNat_of_zero_le (show 0 ≤ t by omega)
    have hs := spec_DogTurns_yes a l r d h.1 n (by omega) k (by omega)
    have hi := impl_DogTurns_yes a l r d h.1 n (by omega) k (by omega)
    have he := eqSS_eq (dogRows a l r d n) (by rw [dogRows_length]; omega) (dogRows_rows a l r d n) k (by omega)
    have hm : laws_markIntSS.f k (dogRows a l r d n) 1 = some (4 * (n : Int) + 1, marks4 n) := by
      have := markSS_l0 a l r d n (by omega) n k 0 (by omega) (by omega)
      simpa [marks4, laws_markIntSS.f] using this
    have hh : laws_heldIntSS.f k (marks4 n) 1 = some (4 * (n : Int) + 1) := by
      have := heldSS_l0 n (by omega) n k 0 (by omega) (by omega)
      simpa [laws_heldIntSS.f] using this
    simp only [laws_FnExactDogTurns.f, hs, hi, Option.bind_some, he, hm, hh, and_self, if_true]
    rw [if_pos ⟨trivial, by omega⟩]
  · obtain ⟨k, rfl⟩ : ∃ m, k = m + 2 := ⟨k - 2, by omega⟩
    have hs := spec_DogTurns_no a l r d t (bounds_i64 wd) h (k + 2)
    have hi := impl_DogTurns_no a l r d t h (k + 2) (by omega)
    simp [laws_FnExactDogTurns.f, hs, hi, laws_eqIntSS.f, laws_eqIntSS.l0, laws_markIntSS.f, laws_markIntSS.l0, laws_heldIntSS.f, laws_heldIntSS.l0]

end Go.Proofs.Ytgobnhoblofglaa.QFnExactDogTurns
