/- The law FnExactDogPlace in plain Lean, over the printed functions: it returns true for every input (no condition). -/
import Derived.Test.YtigjjeecoplpnaaPFnExactDogPlacex5
import Derived.OpenShut
namespace Go.Proofs.Ytigjjeecoplpnaa.QFnExactDogPlace
open Go.RowKit Go.ChangeShapes Go.WideShapes Go.Proofs.Ytigjjeecoplpnaa.PFnExactDogPlace Go.Proofs.YtigjjeecoplpnaaW.PrintWords Go.Proofs.YtigjjeecoplpnaaW.PrintLast Go.Proofs.YtigjjeecoplpnaaW.PrintMore
set_option linter.unusedVariables false
set_option linter.unusedSimpArgs false
theorem w64 {x : Int} (h : -9223372036854775808 ≤ x ∧ x ≤ 9223372036854775807) : wrap64 x = x := by unfold wrap64; omega
theorem bm {a b A B : Int} (ha : 0 ≤ a ∧ a ≤ A) (hb : 0 ≤ b ∧ b ≤ B) : 0 ≤ a * b ∧ a * b ≤ A * B :=
  ⟨Int.mul_nonneg ha.1 hb.1, Int.mul_le_mul ha.2 hb.2 hb.1 (Int.le_trans ha.1 ha.2)⟩
theorem gcd_step (a b : Int) (ha : 0 ≤ a) (hb : 0 ≤ b) : Int.gcd b (a.tmod b) = Int.gcd a b := by
  obtain ⟨m, rfl⟩ := Int.eq_ofNat_of_zero_le ha
  obtain ⟨n, rfl⟩ := Int.eq_ofNat_of_zero_le hb
  rw [← Int.ofNat_tmod]
  show Nat.gcd n (m % n) = Nat.gcd m n
  rw [Nat.gcd_comm n, ← Nat.gcd_rec, Nat.gcd_comm]
def lowN (a b : Int) : Int := a / (Int.gcd a b : Int)
def lowD (a b : Int) : Int := b / (Int.gcd a b : Int)
theorem gpos {a b : Int} (hb : 0 < b) : 0 < (Int.gcd a b : Int) := by
  have := Int.gcd_pos_of_ne_zero_right a (show b ≠ 0 by omega)
  omega
theorem gle {a b : Int} (hb : 0 < b) : (Int.gcd a b : Int) ≤ b := Int.le_of_dvd hb (Int.gcd_dvd_right a b)
theorem tdiv_gcd_l (a b : Int) : a.tdiv (Int.gcd a b) = lowN a b := by
  unfold lowN
  exact (Int.tdiv_eq_ediv_of_dvd (Int.gcd_dvd_left a b))
theorem tdiv_gcd_r (a b : Int) : b.tdiv (Int.gcd a b) = lowD a b := by
  unfold lowD
  exact (Int.tdiv_eq_ediv_of_dvd (Int.gcd_dvd_right a b))
theorem low_range {a b M : Int} (hb : 0 < b) (ha : -M ≤ a ∧ a ≤ M) : -M ≤ lowN a b ∧ lowN a b ≤ M := by
  unfold lowN
  have g := gpos (a := a) hb
  have hM : 0 ≤ M := by omega
  have e := Int.ediv_mul_cancel (Int.gcd_dvd_left a b)
  constructor
  · apply Int.le_ediv_of_mul_le g
    have : -M * (Int.gcd a b : Int) ≤ -M * 1 := Int.mul_le_mul_of_nonpos_left (by omega) (by omega)
    omega
  · rcases Int.le_total 0 a with h | h
    · have := Int.ediv_le_self (Int.gcd a b : Int) h
      omega
    · have := Int.ediv_le_ediv g h
      rw [Int.zero_ediv] at this
      omega
theorem lowD_range {a b : Int} (hb : 0 < b) : 1 ≤ lowD a b ∧ lowD a b ≤ b := by
  unfold lowD
  have g := gpos (a := a) hb
  constructor
  · apply Int.le_ediv_of_mul_le g
    have := gle (a := a) hb
    omega
  · exact Int.ediv_le_self _ (by omega)
theorem bms {a b A B : Int} (ha : -A ≤ a ∧ a ≤ A) (hb : 0 ≤ b ∧ b ≤ B) : -(A * B) ≤ a * b ∧ a * b ≤ A * B := by
  have hA : 0 ≤ A := by omega
  rcases Int.le_total 0 a with h | h
  · have := bm ⟨h, ha.2⟩ hb
    have := Int.mul_nonneg hA (Int.le_trans hb.1 hb.2)
    omega
  · have := bm (a := -a) (A := A) ⟨by omega, by omega⟩ hb
    have e : -a * b = -(a * b) := Int.neg_mul a b
    omega
theorem low_scale (a b c : Int) (hc : 0 < c) : lowN (a * c) (b * c) = lowN a b ∧ lowD (a * c) (b * c) = lowD a b := by
  have e : (Int.gcd (a * c) (b * c) : Int) = (Int.gcd a b : Int) * c := by
    rw [Int.gcd_mul_right]
    have : (c.natAbs : Int) = c := by omega
    rw [Int.natCast_mul, this]
  unfold lowN lowD
  rw [e]
  exact ⟨Int.mul_ediv_mul_of_pos_left a _ hc, Int.mul_ediv_mul_of_pos_left b _ hc⟩
theorem w64b {x B : Int} (h : 0 ≤ x ∧ x ≤ B) (hB : B ≤ 9223372036854775807) : wrap64 x = x := w64 ⟨Int.le_trans (by decide) h.1, Int.le_trans h.2 hB⟩
theorem ad {x y A B : Int} (hx : 0 ≤ x ∧ x ≤ A) (hy : 0 ≤ y ∧ y ≤ B) : 0 ≤ x + y ∧ x + y ≤ A + B := ⟨Int.add_nonneg hx.1 hy.1, Int.add_le_add hx.2 hy.2⟩

theorem spec_l1In_eq (a b c : Int) : spec_l1In.f a b c = some (decide (b ≤ a ∧ a ≤ c)) := by
  unfold spec_l1In.f
  by_cases h : b ≤ a <;> simp [h]

theorem spec_l1Most_eq (a b : Int) : spec_l1Most.f a b = some (if a > b then a else b) := by
  unfold spec_l1Most.f
  split <;> rfl

/-- what a chase is -/
def isCh (a l r d : Int) : Prop := (1 ≤ a ∧ a ≤ 1000) ∧ (0 ≤ l ∧ l ≤ 20) ∧ (0 ≤ r ∧ r ≤ 20) ∧ 0 < l + r ∧ l < d ∧ r < d ∧ d ≤ 20
theorem spec_doGood_no (a l r d : Int) (wd : -9223372036854775808 ≤ d ∧ d ≤ 9223372036854775807) (h : ¬ isCh a l r d) : spec_doGood.f a l r d = some false := by
  unfold isCh at h
  simp only [spec_doGood.f, spec_l1In_eq, spec_l1Most_eq, Option.bind_some]
  by_cases h1 : 1 ≤ a ∧ a ≤ 1000
  · by_cases h2 : 0 ≤ l ∧ l ≤ 20
    · by_cases h3 : 0 ≤ r ∧ r ≤ 20
      · simp only [h1, h2, h3, and_self, decide_true, if_true]
        rw [w64 (by omega)]
        by_cases h4 : l + r > 0
        · rw [if_pos h4, w64 (by split <;> omega)]
          simp only [Option.some.injEq, decide_eq_false_iff_not]
          split <;> omega
        · rw [if_neg h4]
      · simp [h1, h2, h3]
    · simp [h1, h2]
  · simp [h1]
theorem spec_doGood_yes (a l r d : Int) (h : isCh a l r d) : spec_doGood.f a l r d = some true := by
  unfold isCh at h
  obtain ⟨h1, h2, h3, h4, h5, h6, h7⟩ := h
  simp only [spec_doGood.f, spec_l1In_eq, spec_l1Most_eq, Option.bind_some, h1, h2, h3, and_self, decide_true, if_true]
  rw [w64 (by omega), if_pos (show l + r > 0 by omega), w64 (by split <;> omega)]
  simp only [Option.some.injEq, decide_eq_true_eq]
  split <;> omega

/-- by what both go towards each other in the turn behind the turn k -/
def both (l r d : Int) (k : Nat) : Int := if k % 2 = 0 then d + r else d + l
def apO (l r d : Int) : Nat → Int
  | 0 => 1
  | k + 1 => apO l r d k * both l r d k
def apA (a l r d : Int) : Nat → Int
  | 0 => a
  | k + 1 => apA a l r d k * (both l r d k - l - r)
def apT (a l r d : Int) : Nat → Int
  | 0 => 0
  | k + 1 => apT a l r d k * both l r d k + apA a l r d k
def apP (a l r d : Int) : Nat → Int
  | 0 => 0
  | k + 1 => apP a l r d k * both l r d k + (if k % 2 = 0 then d else -d) * apA a l r d k
def apQ (a l r d : Int) : Nat → Int
  | 0 => 0
  | k + 1 => apQ a l r d k * both l r d k + (if k % 2 = 0 then apA a l r d k else 0)
theorem both_range {a l r d : Int} (h : isCh a l r d) (k : Nat) : 1 ≤ both l r d k ∧ both l r d k ≤ 40 ∧ 1 ≤ both l r d k - l - r ∧ both l r d k - l - r ≤ 20 := by
  unfold isCh at h
  unfold both
  split <;> omega
theorem apO_pos {a l r d : Int} (h : isCh a l r d) (k : Nat) : 1 ≤ apO l r d k := by
  induction k with
  | zero => exact Int.le_refl 1
  | succ k ih =>
    have b := both_range h k
    simp only [apO]
    have := Int.mul_le_mul ih b.1 (by omega) (by omega)
    omega
theorem apO_step {a l r d : Int} (h : isCh a l r d) (k : Nat) (N : Int) (hN : apO l r d k ≤ N) : apO l r d (k + 1) ≤ N * 40 := by
  have b := both_range h k
  have p := apO_pos h k
  simp only [apO]
  exact Int.mul_le_mul hN b.2.1 (by omega) (by omega)
theorem apO_le {a l r d : Int} (h : isCh a l r d) : apO l r d 0 ≤ 1 ∧ apO l r d 1 ≤ 40 ∧ apO l r d 2 ≤ 1600 ∧ apO l r d 3 ≤ 64000 ∧ apO l r d 4 ≤ 2560000 ∧ apO l r d 5 ≤ 102400000 ∧ apO l r d 6 ≤ 4096000000 ∧ apO l r d 7 ≤ 163840000000 := by
  have h0 : apO l r d 0 ≤ 1 := Int.le_refl 1
  have h1 := apO_step h 0 _ h0
  have h2 := apO_step h 1 _ h1
  have h3 := apO_step h 2 _ h2
  have h4 := apO_step h 3 _ h3
  have h5 := apO_step h 4 _ h4
  have h6 := apO_step h 5 _ h5
  have h7 := apO_step h 6 _ h6
  exact ⟨h0, h1, h2, h3, h4, h5, h6, h7⟩
theorem apO_le7 {a l r d : Int} (h : isCh a l r d) (k : Nat) (hk : k ≤ 7) : apO l r d k ≤ 163840000000 := by
  have q := apO_le h
  obtain rfl | rfl | rfl | rfl | rfl | rfl | rfl | rfl : k = 0 ∨ k = 1 ∨ k = 2 ∨ k = 3 ∨ k = 4 ∨ k = 5 ∨ k = 6 ∨ k = 7 := by omega
  all_goals omega
theorem apO_le4 {a l r d : Int} (h : isCh a l r d) (k : Nat) (hk : k ≤ 4) : apO l r d k ≤ 2560000 := by
  have q := apO_le h
  obtain rfl | rfl | rfl | rfl | rfl : k = 0 ∨ k = 1 ∨ k = 2 ∨ k = 3 ∨ k = 4 := by omega
  all_goals omega
theorem apA_pos {a l r d : Int} (h : isCh a l r d) (k : Nat) : 1 ≤ apA a l r d k := by
  induction k with
  | zero =>
    unfold isCh at h
    exact h.1.1
  | succ k ih =>
    have b := both_range h k
    simp only [apA]
    have := Int.mul_le_mul ih b.2.2.1 (by omega) (by omega)
    omega
/-- what is left and what is gone are the whole -/
theorem apT_inv {a l r d : Int} (k : Nat) : (l + r) * apT a l r d k + apA a l r d k = a * apO l r d k := by
  induction k with
  | zero => simp [apT, apA, apO]
  | succ k ih =>
    simp only [apT, apA, apO]
    have e : (l + r) * (apT a l r d k * both l r d k + apA a l r d k) + apA a l r d k * (both l r d k - l - r) = ((l + r) * apT a l r d k + apA a l r d k) * both l r d k := by grind
    rw [e, ih]
    grind
theorem apT_nonneg {a l r d : Int} (h : isCh a l r d) (k : Nat) : 0 ≤ apT a l r d k := by
  induction k with
  | zero => exact Int.le_refl 0
  | succ k ih =>
    have b := both_range h k
    have p := apA_pos h k
    simp only [apT]
    have := Int.mul_nonneg ih (show 0 ≤ both l r d k by omega)
    omega
theorem aO_le {a l r d : Int} (h : isCh a l r d) (k : Nat) : a * apO l r d k ≤ 1000 * apO l r d k := by
  have p := apO_pos h k
  unfold isCh at h
  exact Int.mul_le_mul_of_nonneg_right (by omega) (by omega)
theorem apA_le {a l r d : Int} (h : isCh a l r d) (k : Nat) : apA a l r d k ≤ 1000 * apO l r d k := by
  have i := apT_inv (a := a) (l := l) (r := r) (d := d) k
  have t := apT_nonneg h k
  have q := aO_le h k
  unfold isCh at h
  have := Int.mul_nonneg (show 0 ≤ l + r by omega) t
  omega
theorem lrT_le {a l r d : Int} (h : isCh a l r d) (k : Nat) : (l + r) * apT a l r d k ≤ 1000 * apO l r d k := by
  have i := apT_inv (a := a) (l := l) (r := r) (d := d) k
  have p := apA_pos h k
  have q := aO_le h k
  omega
theorem apT_le {a l r d : Int} (h : isCh a l r d) (k : Nat) : apT a l r d k ≤ 1000 * apO l r d k := by
  have q := lrT_le h k
  have t := apT_nonneg h k
  unfold isCh at h
  have := Int.mul_le_mul_of_nonneg_right (show 1 ≤ l + r by omega) t
  omega
theorem apP_eq {a l r d : Int} (k : Nat) : apP a l r d k = if k % 2 = 0 then l * apT a l r d k else a * apO l r d k - r * apT a l r d k := by
  induction k with
  | zero => simp [apP, apT]
  | succ k ih =>
    have i := apT_inv (a := a) (l := l) (r := r) (d := d) k
    simp only [apP, apT, apO]
    rw [ih]
    by_cases e : k % 2 = 0
    · have e1 : ¬ (k + 1) % 2 = 0 := by omega
      have eb : both l r d k = d + r := by unfold both; rw [if_pos e]
      rw [if_pos e, if_pos e, if_neg e1, eb]
      grind
    · have e1 : (k + 1) % 2 = 0 := by omega
      have eb : both l r d k = d + l := by unfold both; rw [if_neg e]
      rw [if_neg e, if_neg e, if_pos e1, eb]
      grind
theorem apP_range {a l r d : Int} (h : isCh a l r d) (k : Nat) : 0 ≤ apP a l r d k ∧ apP a l r d k ≤ 1000 * apO l r d k := by
  have i := apT_inv (a := a) (l := l) (r := r) (d := d) k
  have t := apT_nonneg h k
  have p := apA_pos h k
  have q := aO_le h k
  rw [apP_eq]
  unfold isCh at h
  have m1 := Int.mul_nonneg (show 0 ≤ l by omega) t
  have m2 := Int.mul_nonneg (show 0 ≤ r by omega) t
  have e : (l + r) * apT a l r d k = l * apT a l r d k + r * apT a l r d k := Int.add_mul _ _ _
  split <;> omega
theorem apQ_range {a l r d : Int} (h : isCh a l r d) (k : Nat) : 0 ≤ apQ a l r d k ∧ apQ a l r d k ≤ apT a l r d k := by
  induction k with
  | zero => exact ⟨Int.le_refl 0, Int.le_refl 0⟩
  | succ k ih =>
    have b := both_range h k
    have p := apA_pos h k
    simp only [apQ, apT]
    have m1 := Int.mul_nonneg ih.1 (show 0 ≤ both l r d k by omega)
    have m2 := Int.mul_le_mul_of_nonneg_right ih.2 (show 0 ≤ both l r d k by omega)
    split <;> omega
theorem low_eq {a b c d : Int} (hb : 0 < b) (hd : 0 < d) (h : a * d = c * b) : lowN a b = lowN c d ∧ lowD a b = lowD c d := by
  have s1 := low_scale a b d hd
  have s2 := low_scale c d b hb
  rw [← s1.1, ← s1.2, ← s2.1, ← s2.2, h, Int.mul_comm b d]
  exact ⟨rfl, rfl⟩
theorem low_cross (a b : Int) : lowN a b * b = a * lowD a b := by
  have e1 := Int.ediv_mul_cancel (Int.gcd_dvd_left a b)
  have e2 := Int.ediv_mul_cancel (Int.gcd_dvd_right a b)
  unfold lowN lowD
  generalize a / (Int.gcd a b : Int) = u at *
  generalize b / (Int.gcd a b : Int) = v at *
  generalize (Int.gcd a b : Int) = g at *
  have : u * (v * g) = u * g * v := by rw [Int.mul_assoc, Int.mul_comm v g]
  rw [e1, e2] at this
  exact this
theorem low_nonneg {a b : Int} (ha : 0 ≤ a) (hb : 0 < b) : 0 ≤ lowN a b ∧ lowN a b ≤ a := by
  unfold lowN
  exact ⟨Int.ediv_nonneg ha (by omega), Int.ediv_le_self _ ha⟩
theorem tm_yes (i : Nat) (e : i % 2 = 0) : Int.tmod (i : Int) 2 = 0 := by
  rw [Int.tmod_eq_emod_of_nonneg (Int.natCast_nonneg i)]
  omega
theorem tm_no (i : Nat) (e : ¬ i % 2 = 0) : ¬ Int.tmod (i : Int) 2 = 0 := by
  rw [Int.tmod_eq_emod_of_nonneg (Int.natCast_nonneg i)]
  omega
theorem par_up (i : Nat) (e : i % 2 = 0) : ¬ (i + 1) % 2 = 0 := by omega
theorem par_down (i : Nat) (e : ¬ i % 2 = 0) : (i + 1) % 2 = 0 := by omega
def stAt (a l r d : Int) (k : Nat) : S41 := ⟨apT a l r d k, apP a l r d k, apA a l r d k, d * apQ a l r d k, apO l r d k⟩
theorem step_wraps {T P A Q O b s d : Int} (hT : 0 ≤ T ∧ T ≤ 163840000000000) (hP : 0 ≤ P ∧ P ≤ 163840000000000) (hA : 0 ≤ A ∧ A ≤ 163840000000000) (hQ : 0 ≤ Q ∧ Q ≤ 163840000000000)
    (hO : 0 ≤ O ∧ O ≤ 163840000000) (hb : 0 ≤ b ∧ b ≤ 40) (hs : 0 ≤ s ∧ s ≤ 20) (hd : 0 ≤ d ∧ d ≤ 20) :
    wrap64 (T * b) = T * b ∧ wrap64 (T * b + A) = T * b + A ∧ wrap64 (P * b) = P * b ∧ wrap64 (d * A) = d * A ∧ wrap64 (P * b + d * A) = P * b + d * A ∧ wrap64 (-d * A) = -d * A ∧ wrap64 (P * b + -d * A) = P * b + -d * A ∧
    wrap64 (A * s) = A * s ∧ wrap64 (d * Q * b) = d * Q * b ∧ wrap64 (d * Q * b + d * A) = d * Q * b + d * A ∧ wrap64 (d * Q * b + 0 * A) = d * Q * b + 0 * A ∧ wrap64 (O * b) = O * b ∧ wrap64 (0 * A) = 0 * A := by
  have pb := bm hP hb
  have da := bm hd hA
  have dq := bm (bm hd hQ) hb
  have en : -d * A = -(d * A) := Int.neg_mul _ _
  refine ⟨w64b (bm hT hb) (by decide), w64b (ad (bm hT hb) hA) (by decide), w64b pb (by decide), w64b da (by decide), w64b (ad pb da) (by decide), ?_, ?_, w64b (bm hA hs) (by decide), w64b dq (by decide), w64b (ad dq da) (by decide), ?_, w64b (bm hO hb) (by decide), ?_⟩
  · rw [en]
    exact w64 ⟨by omega, by omega⟩
  · rw [en]
    exact w64 ⟨by omega, by omega⟩
  · rw [Int.zero_mul, Int.add_zero]
    exact w64b dq (by decide)
  · rw [Int.zero_mul]
    exact w64 ⟨by decide, by decide⟩
theorem st_ranges {a l r d : Int} (h : isCh a l r d) (i : Nat) (hi : i ≤ 7) : (0 ≤ apT a l r d i ∧ apT a l r d i ≤ 163840000000000) ∧ (0 ≤ apP a l r d i ∧ apP a l r d i ≤ 163840000000000) ∧ (0 ≤ apA a l r d i ∧ apA a l r d i ≤ 163840000000000) ∧
    (0 ≤ apQ a l r d i ∧ apQ a l r d i ≤ 163840000000000) ∧ (0 ≤ apO l r d i ∧ apO l r d i ≤ 163840000000) := by
  have o1 := apO_pos h i
  have o2 := apO_le7 h i hi
  have t1 := apT_nonneg h i
  have t2 := apT_le h i
  have p1 := apP_range h i
  have q1 := apQ_range h i
  have a1 := apA_pos h i
  have a2 := apA_le h i
  generalize apT a l r d i = T at *
  generalize apP a l r d i = P at *
  generalize apA a l r d i = A at *
  generalize apQ a l r d i = Q at *
  generalize apO l r d i = O at *
  clear h
  refine ⟨⟨?_, ?_⟩, ⟨?_, ?_⟩, ⟨?_, ?_⟩, ⟨?_, ?_⟩, ⟨?_, ?_⟩⟩ <;> omega
theorem spec_doRun_l0 (a l r d : Int) (h : isCh a l r d) (n : Nat) (hn : n ≤ 7) (q : Nat) : ∀ (k i : Nat), i + q = n → q < k →
    spec_doRun.l0 k (n : Int) ((List.range (i + 1)).map (stAt a l r d)) ((i + 1 : Nat) : Int) a l r d (apT a l r d i) (apP a l r d i) (apA a l r d i) (d * apQ a l r d i) (apO l r d i) = some ((List.range (n + 1)).map (stAt a l r d)) := by
  have g := h
  unfold isCh at g
  have hd : 0 ≤ d ∧ d ≤ 20 := by omega
  have w1 : wrap64 (d + r) = d + r := w64 (by omega)
  have w2 : wrap64 (d + r - l) = d + r - l := w64 (by omega)
  have w3 : wrap64 (d + r - l - r) = d + r - l - r := w64 (by omega)
  have w4 : wrap64 (d + l) = d + l := w64 (by omega)
  have w5 : wrap64 (d + l - l) = d + l - l := w64 (by omega)
  have w6 : wrap64 (d + l - l - r) = d + l - l - r := w64 (by omega)
  have w7 : wrap64 (-d) = -d := w64 (by omega)
  have z0 : (if (0 : Int) > d then (0 : Int) else d) = d := if_neg (by omega)
  have z1 : (if (0 : Int) > -d then (0 : Int) else -d) = 0 := if_pos (by omega)
  have r1 : 0 ≤ d + r ∧ d + r ≤ 40 := by omega
  have r2 : 0 ≤ d + l ∧ d + l ≤ 40 := by omega
  have r3 : 0 ≤ d + r - l - r ∧ d + r - l - r ≤ 20 := by omega
  have r4 : 0 ≤ d + l - l - r ∧ d + l - l - r ≤ 20 := by omega
  clear g
  induction q with
  | zero =>
    intro k i hi hk
    obtain ⟨k, rfl⟩ : ∃ m, k = m + 1 := ⟨k - 1, by omega⟩
    obtain rfl : i = n := by omega
    simp only [spec_doRun.l0]
    rw [if_neg (by omega)]
  | succ q ih =>
    intro k i hi hk
    obtain ⟨k, rfl⟩ : ∃ m, k = m + 1 := ⟨k - 1, by omega⟩
    have next := ih k (i + 1) (by omega) (by omega)
    obtain ⟨hT, hP, hA, hQ, hO⟩ := st_ranges h i (by omega)
    have hlen : ((List.range (i + 1)).map (stAt a l r d)).length < 3518437208883 := by
      simp only [List.length_map, List.length_range]
      omega
    have hx : wrap64 (((i + 1 : Nat) : Int) + 1) = ((i + 1 + 1 : Nat) : Int) := by
      rw [w64 (by omega)]
      rfl
    have hle : ((i + 1 : Nat) : Int) ≤ (n : Int) := by omega
    have hcons : (List.range (i + 1)).map (stAt a l r d) ++ [stAt a l r d (i + 1)] = (List.range (i + 1 + 1)).map (stAt a l r d) := by
      rw [List.range_succ (n := i + 1), List.map_append]
      rfl
    rw [← hcons] at next
    simp only [spec_doRun.l0]
    rw [if_pos hle, hx]
    by_cases e : i % 2 = 0
    · have eb : both l r d i = d + r := by unfold both; rw [if_pos e]
      have tm := tm_no (i + 1) (par_up i e)
      obtain ⟨x1, x2, x3, x4, x5, x6, x7, x8, x9, x10, x11, x12, x13⟩ := step_wraps hT hP hA hQ hO r1 r3 hd
      have eT : apT a l r d (i + 1) = apT a l r d i * (d + r) + apA a l r d i := by rw [← eb]; rfl
      have eP : apP a l r d (i + 1) = apP a l r d i * (d + r) + d * apA a l r d i := by
        rw [← eb]
        show _ + (if i % 2 = 0 then d else -d) * _ = _
        rw [if_pos e]
      have eA : apA a l r d (i + 1) = apA a l r d i * (d + r - l - r) := by rw [← eb]; rfl
      have eO : apO l r d (i + 1) = apO l r d i * (d + r) := by rw [← eb]; rfl
      have eR : d * apQ a l r d (i + 1) = d * apQ a l r d i * (d + r) + d * apA a l r d i := by
        rw [← eb]
        show d * (_ + (if i % 2 = 0 then apA a l r d i else 0)) = _
        rw [if_pos e, Int.mul_add, Int.mul_assoc]
      rw [if_neg tm, spec_l1Most_eq]
      simp only [Option.bind_some]
      rw [if_pos hlen, z0, w1, w2, w3, x1, x3, x4, x9, x2, x5, x8, x10, x12, ← eT, ← eP, ← eA, ← eO, ← eR]
      exact next
    · have eb : both l r d i = d + l := by unfold both; rw [if_neg e]
      have tm := tm_yes (i + 1) (par_down i e)
      obtain ⟨x1, x2, x3, x4, x5, x6, x7, x8, x9, x10, x11, x12, x13⟩ := step_wraps hT hP hA hQ hO r2 r4 hd
      have eT : apT a l r d (i + 1) = apT a l r d i * (d + l) + apA a l r d i := by rw [← eb]; rfl
      have eP : apP a l r d (i + 1) = apP a l r d i * (d + l) + -d * apA a l r d i := by
        rw [← eb]
        show _ + (if i % 2 = 0 then d else -d) * _ = _
        rw [if_neg e]
      have eA : apA a l r d (i + 1) = apA a l r d i * (d + l - l - r) := by rw [← eb]; rfl
      have eO : apO l r d (i + 1) = apO l r d i * (d + l) := by rw [← eb]; rfl
      have eR : d * apQ a l r d (i + 1) = d * apQ a l r d i * (d + l) + 0 * apA a l r d i := by
        rw [← eb]
        show d * (_ + (if i % 2 = 0 then apA a l r d i else 0)) = _
        rw [if_neg e, Int.mul_add, Int.mul_assoc, Int.mul_zero, Int.zero_mul]
      rw [if_pos tm, w7, spec_l1Most_eq]
      simp only [Option.bind_some]
      rw [if_pos hlen, z1, w4, w5, w6, x1, x3, x6, x9, x13, x2, x7, x8, x11, x12, ← eT, ← eP, ← eA, ← eO, ← eR]
      exact next
theorem spec_doRun_eq (a l r d : Int) (h : isCh a l r d) (n : Nat) (hn : n ≤ 7) (k : Nat) (hk : 10 < k) : spec_doRun.f k a l r d (n : Int) = some ((List.range (n + 1)).map (stAt a l r d)) := by
  have := spec_doRun_l0 a l r d h n hn n k 0 (by omega) (by omega)
  unfold spec_doRun.f
  simpa [apT, apP, apA, apQ, apO, stAt] using this
theorem rd_st (a l r d : Int) (n i : Nat) (h : i ≤ n) : rd_T41 ((List.range (n + 1)).map (stAt a l r d)) (i : Int) = stAt a l r d i := by
  have : i < n + 1 := by omega
  simp [rd_T41, this]

theorem spec_l1Abs_eq (a : Int) (h : -9223372036854775807 ≤ a ∧ a ≤ 9223372036854775807) : spec_l1Abs.f a = some (Int.natAbs a : Int) := by
  unfold spec_l1Abs.f
  rw [w64 (by omega), spec_l1Most_eq]
  simp only [Option.bind_some, Option.some.injEq]
  split <;> omega

theorem spec_meLow_l0 (a0 b0 : Int) (h0 : 0 < b0) (ha0 : -9223372036854775807 ≤ a0 ∧ a0 ≤ 9223372036854775807) (hb0 : b0 ≤ 9223372036854775807) (n : Nat) :
    ∀ (k : Nat) (a b : Int), 0 ≤ a → 0 ≤ b → b ≤ n → n < k → Int.gcd a b = Int.gcd a0 b0 → spec_meLow.l0 k a0 b0 a b = some (lowN a0 b0, lowD a0 b0) := by
  have fin : ∀ (k : Nat) (a : Int), 0 ≤ a → Int.gcd a 0 = Int.gcd a0 b0 → spec_meLow.l0 (k + 1) a0 b0 a 0 = some (lowN a0 b0, lowD a0 b0) := by
    intro k a ha e
    have hg : a = (Int.gcd a0 b0 : Int) := by rw [Int.gcd_zero_right] at e; omega
    have gp := gpos (a := a0) h0
    have r1 := low_range (a := a0) h0 ha0
    have r2 := lowD_range (a := a0) h0
    simp only [spec_meLow.l0]
    rw [if_neg (by omega), if_neg (by omega), hg, tdiv_gcd_l, tdiv_gcd_r, w64 (by omega), w64 (by omega)]
  induction n with
  | zero =>
    intro k a b ha hb hn hk e
    obtain ⟨k, rfl⟩ : ∃ m, k = m + 1 := ⟨k - 1, by omega⟩
    obtain rfl : b = 0 := by omega
    exact fin k a ha e
  | succ n ih =>
    intro k a b ha hb hn hk e
    obtain ⟨k, rfl⟩ : ∃ m, k = m + 1 := ⟨k - 1, by omega⟩
    by_cases h : b > 0
    · simp only [spec_meLow.l0]
      rw [if_pos h, if_neg (by omega)]
      have h1 : 0 ≤ a.tmod b := Int.tmod_nonneg b ha
      have h2 : a.tmod b < b := Int.tmod_lt_of_pos a h
      exact ih k b (a.tmod b) hb h1 (by omega) (by omega) ((gcd_step a b ha hb).trans e)
    · obtain rfl : b = 0 := by omega
      exact fin k a ha e
theorem spec_meLow_eq (k : Nat) (a b : Int) (hb : 0 < b) (ha : -9223372036854775807 ≤ a ∧ a ≤ 9223372036854775807) (hbb : b ≤ 9223372036854775807) (hk : b + 1 < k) :
    spec_meLow.f k a b = some (lowN a b, lowD a b) := by
  obtain ⟨k, rfl⟩ : ∃ m, k = m + 1 := ⟨k - 1, by omega⟩
  unfold spec_meLow.f
  rw [if_neg (by omega)]
  simp only [spec_meLow.j0]
  rw [spec_l1Abs_eq a ha]
  simp only [Option.bind_some]
  exact spec_meLow_l0 a b hb ha hbb b.toNat k _ b (by omega) (by omega) (by omega) (by omega) (by rw [Int.gcd, Int.gcd, Int.natAbs_natCast])

def isTime (a l r n e : Int) : Prop := (0 ≤ n ∧ n ≤ 1000) ∧ (1 ≤ e ∧ e ≤ 100) ∧ n * (l + r) ≤ a * e
instance (a l r n e : Int) : Decidable (isTime a l r n e) := by unfold isTime; infer_instance
theorem spec_doTime_eq (a l r d n e : Int) (h : isCh a l r d) : spec_doTime.f a l r d n e = some (decide (isTime a l r n e)) := by
  unfold isCh at h
  unfold isTime
  simp only [spec_doTime.f, spec_l1In_eq, Option.bind_some]
  by_cases h1 : 0 ≤ n ∧ n ≤ 1000
  · by_cases h2 : 1 ≤ e ∧ e ≤ 100
    · have p1 := bm (A := 1000) (B := 40) (a := n) (b := l + r) (by omega) (by omega)
      have p2 := bm (A := 1000) (B := 100) (a := a) (b := e) (by omega) (by omega)
      rw [w64 (x := l + r) (by omega), w64 (x := n * (l + r)) (by omega), w64 (x := a * e) (by omega)]
      simp [h1, h2]
    · simp [h1, h2]
  · simp [h1]

/-- the turn behind x more is not later than n / e -/
def upT (a l r d n e : Int) (x : Nat) : Bool := decide (apT a l r d (x + 1) * e ≤ n * apO l r d (x + 1))
theorem upT_anti {a l r d : Int} (h : isCh a l r d) (n e : Int) (he : 1 ≤ e) (x : Nat) (hx : upT a l r d n e (x + 1) = true) : upT a l r d n e x = true := by
  unfold upT at hx ⊢
  rw [decide_eq_true_eq] at hx ⊢
  have b := both_range h (x + 1)
  have p := apA_pos h (x + 1)
  have q : apT a l r d (x + 1 + 1) = apT a l r d (x + 1) * both l r d (x + 1) + apA a l r d (x + 1) := rfl
  have s : apO l r d (x + 1 + 1) = apO l r d (x + 1) * both l r d (x + 1) := rfl
  rw [q, s] at hx
  generalize apT a l r d (x + 1) = T at *
  generalize apO l r d (x + 1) = O at *
  generalize apA a l r d (x + 1) = A at *
  generalize both l r d (x + 1) = B at *
  have z : 0 ≤ A * e := Int.mul_nonneg (by omega) (by omega)
  have e1 : (T * B + A) * e = T * e * B + A * e := by grind
  have e2 : n * (O * B) = n * O * B := by grind
  rw [e1, e2] at hx
  exact Int.le_of_mul_le_mul_right (show T * e * B ≤ n * O * B by omega) (by omega)
def cnt (c : Nat → Bool) : Nat → Nat → Int → Int
  | 0, _, n => n
  | d + 1, x, n => cnt c d (x + 1) (if c x = true then n + 1 else n)
def fst (c : Nat → Bool) : Nat → Nat → Nat
  | 0, x => x
  | d + 1, x => if c x = true then fst c d (x + 1) else x
theorem cnt_none (c : Nat → Bool) (d : Nat) : ∀ (x : Nat) (n : Int), (∀ y, x ≤ y → c y = false) → cnt c d x n = n := by
  induction d with
  | zero => exact fun _ _ _ => rfl
  | succ d ih =>
    intro x n h
    unfold cnt
    rw [h x (Nat.le_refl x), if_neg Bool.false_ne_true]
    exact ih (x + 1) n (fun y hy => h y (by omega))
theorem cnt_fst (c : Nat → Bool) (hc : ∀ x, c (x + 1) = true → c x = true) (d : Nat) : ∀ (x : Nat) (n : Int), cnt c d x n = n + ((fst c d x : Int) - x) := by
  induction d with
  | zero =>
    intro x n
    unfold cnt fst
    omega
  | succ d ih =>
    intro x n
    unfold cnt fst
    by_cases z : c x = true
    · rw [if_pos z, if_pos z, ih (x + 1) (n + 1)]
      omega
    · rw [if_neg z, if_neg z, cnt_none c d (x + 1) n ?_]
      · omega
      · have zz : c x = false := by
          cases hh : c x with
          | false => rfl
          | true => exact absurd hh z
        have all : ∀ m, c (x + m) = false := by
          intro m
          induction m with
          | zero => exact zz
          | succ m ihm =>
            cases hh : c (x + (m + 1)) with
            | false => rfl
            | true =>
              have := hc (x + m) hh
              rw [ihm] at this
              exact absurd this Bool.false_ne_true
        intro y hy
        have := all (y - x)
        rwa [show x + (y - x) = y by omega] at this
theorem fst_le (c : Nat → Bool) (d : Nat) : ∀ x, x ≤ fst c d x ∧ fst c d x ≤ x + d := by
  induction d with
  | zero => exact fun x => ⟨Nat.le_refl x, Nat.le_refl x⟩
  | succ d ih =>
    intro x
    unfold fst
    have := ih (x + 1)
    split <;> omega
theorem low_test (T O n e : Int) (hO : 0 < O) : lowN T O * e > n * lowD T O ↔ T * e > n * O := by
  have cc := low_cross T O
  have hb := (lowD_range (a := T) (b := O) hO).1
  generalize lowN T O = t at *
  generalize lowD T O = b at *
  have e1 : t * e * O = T * e * b := by grind
  have e2 : n * b * O = n * O * b := by grind
  constructor
  · intro z
    have := Int.mul_lt_mul_of_pos_right (show n * b < t * e from z) hO
    rw [e1, e2] at this
    exact Int.lt_of_mul_lt_mul_right this (by omega)
  · intro z
    have := Int.mul_lt_mul_of_pos_right (show n * O < T * e from z) (show 0 < b by omega)
    rw [← e1, ← e2] at this
    exact Int.lt_of_mul_lt_mul_right this (by omega)
theorem rd_drop (a l r d : Int) (i : Nat) (h : i < 7) : rd_T41 (((List.range 8).map (stAt a l r d)).drop 1) (i : Int) = stAt a l r d (i + 1) := by
  have : 1 + i < 8 := by omega
  have this2 : i + 1 < 8 := by omega
  have e : 1 + i = i + 1 := by omega
  simp [rd_T41, List.getD_eq_getElem?_getD, List.getElem?_drop, this, this2, e]
theorem before_n (a l r d n e : Int) (h : isCh a l r d) (hn : 0 ≤ n ∧ n ≤ 1000) (he : 1 ≤ e ∧ e ≤ 100) (q : Nat) : ∀ (i : Nat) (s : Int), i + q = 7 → 0 ≤ s ∧ s ≤ i →
    spec_doBefore.n n e (((List.range 8).map (stAt a l r d)).drop 1) q (i : Int) s = cnt (upT a l r d n e) q i s := by
  induction q with
  | zero => exact fun _ _ _ _ => rfl
  | succ q ih =>
    intro i s hi hs
    obtain ⟨hT, hP, hA, hQ, hO⟩ := st_ranges h (i + 1) (by omega)
    have w1 : wrap64 (apT a l r d (i + 1) * e) = apT a l r d (i + 1) * e := w64b (bm hT (show 0 ≤ e ∧ e ≤ 100 by omega)) (by decide)
    have w2 : wrap64 (n * apO l r d (i + 1)) = n * apO l r d (i + 1) := w64b (bm hn hO) (by decide)
    clear hT hP hA hQ hO
    show spec_doBefore.n n e _ q ((i : Int) + 1) (if (wrap64 ((rd_T41 _ (i : Int)).f0 * e)) ≤ (wrap64 (n * (rd_T41 _ (i : Int)).f4)) then wrap64 (s + 1) else s) = cnt _ q (i + 1) (if decide _ = true then s + 1 else s)
    rw [rd_drop a l r d i (by omega)]
    show spec_doBefore.n n e _ q ((i : Int) + 1) (if (wrap64 (apT a l r d (i + 1) * e)) ≤ (wrap64 (n * apO l r d (i + 1))) then wrap64 (s + 1) else s) = _
    rw [w1, w2, w64 (x := s + 1) (by omega)]
    by_cases z : apT a l r d (i + 1) * e ≤ n * apO l r d (i + 1)
    · rw [if_pos z, decide_eq_true z, if_pos rfl]
      exact ih (i + 1) (s + 1) (by omega) (by omega)
    · rw [if_neg z, decide_eq_false z, if_neg Bool.false_ne_true]
      exact ih (i + 1) s (by omega) (by omega)
theorem spec_doBefore_eq (a l r d n e : Int) (h : isCh a l r d) (hn : 0 ≤ n ∧ n ≤ 1000) (he : 1 ≤ e ∧ e ≤ 100) (k : Nat) (hk : 10 < k) : spec_doBefore.f k a l r d n e = some ((fst (upT a l r d n e) 7 0 : Nat) : Int) := by
  unfold spec_doBefore.f
  have e7 := spec_doRun_eq a l r d h 7 (Nat.le_refl 7) k hk
  rw [show ((7 : Nat) : Int) = 7 from rfl] at e7
  rw [e7]
  simp only [Option.bind_some]
  rw [if_pos (by simp)]
  have z := before_n a l r d n e h hn he 7 0 0 (by omega) (by omega)
  rw [cnt_fst _ (upT_anti h n e he.1)] at z
  have hl : (((List.range (7 + 1)).map (stAt a l r d)).drop 1).length = 7 := by simp
  rw [hl]
  refine congrArg some (Eq.trans z ?_)
  simp

theorem impl_divisorOf_l0 (n : Nat) : ∀ (k : Nat) (a b : Int), 0 ≤ a → 0 ≤ b → b ≤ n → n < k → impl_divisorOf.l0 k a b = some (Int.gcd a b : Int) := by
  induction n with
  | zero =>
    intro k a b ha hb hn hk
    obtain ⟨k, rfl⟩ : ∃ m, k = m + 1 := ⟨k - 1, by omega⟩
    obtain rfl : b = 0 := by omega
    simp only [impl_divisorOf.l0]
    rw [if_neg (by omega), Int.gcd_zero_right]
    congr 1
    omega
  | succ n ih =>
    intro k a b ha hb hn hk
    obtain ⟨k, rfl⟩ : ∃ m, k = m + 1 := ⟨k - 1, by omega⟩
    simp only [impl_divisorOf.l0]
    by_cases h : b > 0
    · rw [if_pos h, if_neg (by omega)]
      have h1 : 0 ≤ a.tmod b := Int.tmod_nonneg b ha
      have h2 : a.tmod b < b := Int.tmod_lt_of_pos a h
      rw [ih k b (a.tmod b) hb h1 (by omega) (by omega), gcd_step a b ha hb]
    · obtain rfl : b = 0 := by omega
      rw [if_neg h, Int.gcd_zero_right]
      congr 1
      omega
theorem impl_divisorOf_eq (k : Nat) (a b : Int) (ha : 0 ≤ a) (hb : 0 ≤ b) (hk : b < k) : impl_divisorOf.f k a b = some (Int.gcd a b : Int) := by
  unfold impl_divisorOf.f
  exact impl_divisorOf_l0 b.toNat k a b ha hb (by omega) (by omega)

theorem impl_absOf_eq (a : Int) (h : -9223372036854775807 ≤ a ∧ a ≤ 9223372036854775807) : impl_absOf.f a = some (Int.natAbs a : Int) := by
  unfold impl_absOf.f mx
  rw [w64 (by omega)]
  simp only [Option.some.injEq]
  split <;> omega

theorem impl_lowest_eq (k : Nat) (a b : Int) (hb : 0 < b) (ha : -9223372036854775807 ≤ a ∧ a ≤ 9223372036854775807) (hbb : b ≤ 9223372036854775807) (hk : -(k : Int) < a ∧ a < k) :
    impl_lowest.f k a b = some (lowN a b, lowD a b) := by
  unfold impl_lowest.f
  rw [if_neg (by omega), impl_absOf_eq a ha]
  simp only [Option.bind_some]
  rw [impl_divisorOf_eq k b _ (by omega) (by omega) (by omega)]
  have e : Int.gcd b (a.natAbs : Int) = Int.gcd a b := by
    rw [Int.gcd_comm, Int.gcd, Int.gcd, Int.natAbs_natCast]
  have gp := gpos (a := a) hb
  have r1 := low_range (a := a) hb ha
  have r2 := lowD_range (a := a) hb
  simp only [Option.bind_some, e]
  rw [if_neg (by omega), tdiv_gcd_l, tdiv_gcd_r, w64 (by omega), w64 (by omega)]

theorem impl_within_eq (a b c : Int) : impl_within.f a b c = some (decide (b ≤ a ∧ a ≤ c)) := by
  unfold impl_within.f
  by_cases h : b ≤ a <;> simp [h]

theorem impl_IsChase_no (a l r d : Int) (h : ¬ isCh a l r d) : impl_IsChase.f a l r d = some false := by
  unfold isCh at h
  simp only [impl_IsChase.f, impl_within_eq, Option.bind_some]
  by_cases h1 : 1 ≤ a ∧ a ≤ 1000
  · by_cases h2 : 0 ≤ l ∧ l ≤ 20
    · by_cases h3 : 0 ≤ r ∧ r ≤ 20
      · simp only [h1, h2, h3, and_self, decide_true, if_true]
        rw [w64 (by omega)]
        by_cases h4 : l + r > 0
        · rw [if_pos h4]
          by_cases h5 : d > mx l r
          · rw [if_pos h5]
            unfold mx at h5
            simp only [Option.some.injEq, decide_eq_false_iff_not]
            split at h5 <;> omega
          · rw [if_neg h5]
        · rw [if_neg h4]
      · simp [h1, h2, h3]
    · simp [h1, h2]
  · simp [h1]
theorem impl_IsChase_yes (a l r d : Int) (h : isCh a l r d) : impl_IsChase.f a l r d = some true := by
  unfold isCh at h
  obtain ⟨h1, h2, h3, h4, h5, h6, h7⟩ := h
  simp only [impl_IsChase.f, impl_within_eq, Option.bind_some, h1, h2, h3, and_self, decide_true, if_true]
  rw [w64 (by omega), if_pos (show l + r > 0 by omega), if_pos (show d > mx l r by unfold mx; split <;> omega)]
  simp [h7]

theorem impl_isChaseTime_eq (a l r d n e : Int) (h : isCh a l r d) : impl_isChaseTime.f a l r d n e = some (decide (isTime a l r n e)) := by
  have hc := impl_IsChase_yes a l r d h
  unfold isCh at h
  unfold isTime
  simp only [impl_isChaseTime.f, hc, impl_within_eq, Option.bind_some, if_true]
  by_cases h1 : 0 ≤ n ∧ n ≤ 1000
  · by_cases h2 : 1 ≤ e ∧ e ≤ 100
    · have p1 := bm (A := 1000) (B := 40) (a := n) (b := l + r) (by omega) (by omega)
      have p2 := bm (A := 1000) (B := 100) (a := a) (b := e) (by omega) (by omega)
      rw [w64 (x := l + r) (by omega), w64 (x := n * (l + r)) (by omega), w64 (x := a * e) (by omega)]
      simp [h1, h2]
    · simp [h1, h2]
  · simp [h1]
theorem impl_isChaseTime_no (a l r d n e : Int) (h : ¬ isCh a l r d) : impl_isChaseTime.f a l r d n e = some false := by
  simp only [impl_isChaseTime.f, impl_IsChase_no a l r d h, Option.bind_some]
  rfl

theorem impl_apartAt_l0 (a l r d : Int) (h : isCh a l r d) (n : Nat) (hn : n ≤ 7) (q : Nat) : ∀ (k i : Nat), i + q = n → q < k →
    impl_apartAt.l0 k (apA a l r d i) (apO l r d i) (n : Int) (i : Int) a l r d = some (apA a l r d n, apO l r d n) := by
  have g := h
  unfold isCh at g
  have w1 : wrap64 (d + r) = d + r := w64 (by omega)
  have w2 : wrap64 (d - l) = d - l := w64 (by omega)
  have w4 : wrap64 (d + l) = d + l := w64 (by omega)
  have w5 : wrap64 (d - r) = d - r := w64 (by omega)
  have r1 : 0 ≤ d + r ∧ d + r ≤ 40 := by omega
  have r2 : 0 ≤ d + l ∧ d + l ≤ 40 := by omega
  have r3 : 0 ≤ d - l ∧ d - l ≤ 20 := by omega
  have r4 : 0 ≤ d - r ∧ d - r ≤ 20 := by omega
  have ez1 : d + r - l - r = d - l := by omega
  have ez2 : d + l - l - r = d - r := by omega
  clear g
  induction q with
  | zero =>
    intro k i hi hk
    obtain ⟨k, rfl⟩ : ∃ m, k = m + 1 := ⟨k - 1, by omega⟩
    obtain rfl : i = n := by omega
    simp only [impl_apartAt.l0]
    rw [if_neg (by omega)]
  | succ q ih =>
    intro k i hi hk
    obtain ⟨k, rfl⟩ : ∃ m, k = m + 1 := ⟨k - 1, by omega⟩
    have next := ih k (i + 1) (by omega) (by omega)
    have o1 := apO_pos h i
    have o2 := apO_le7 h i (by omega)
    have a1 := apA_pos h i
    have a2 := apA_le h i
    have hO : 0 ≤ apO l r d i ∧ apO l r d i ≤ 163840000000 := ⟨Int.le_trans (by decide) o1, o2⟩
    have hA : 0 ≤ apA a l r d i ∧ apA a l r d i ≤ 163840000000000 := ⟨Int.le_trans (by decide) a1, Int.le_trans a2 (Int.mul_le_mul_of_nonneg_left o2 (by decide))⟩
    have hx : wrap64 ((i : Int) + 1) = ((i + 1 : Nat) : Int) := by
      rw [w64 (by omega)]
      rfl
    have hlt : (i : Int) < (n : Int) := by omega
    simp only [impl_apartAt.l0]
    rw [if_pos hlt, hx]
    by_cases e : i % 2 = 0
    · have eb : both l r d i = d + r := by unfold both; rw [if_pos e]
      have tm := tm_yes i e
      have eA : apA a l r d (i + 1) = apA a l r d i * (d - l) := by rw [← ez1, ← eb]; rfl
      have eO : apO l r d (i + 1) = apO l r d i * (d + r) := by rw [← eb]; rfl
      have x1 : wrap64 (apA a l r d i * (d - l)) = apA a l r d i * (d - l) := w64b (bm hA r3) (by decide)
      have x2 : wrap64 (apO l r d i * (d + r)) = apO l r d i * (d + r) := w64b (bm hO r1) (by decide)
      rw [if_pos tm, w1, w2, x1, x2, ← eA, ← eO]
      exact next
    · have eb : both l r d i = d + l := by unfold both; rw [if_neg e]
      have tm := tm_no i e
      have eA : apA a l r d (i + 1) = apA a l r d i * (d - r) := by rw [← ez2, ← eb]; rfl
      have eO : apO l r d (i + 1) = apO l r d i * (d + l) := by rw [← eb]; rfl
      have x1 : wrap64 (apA a l r d i * (d - r)) = apA a l r d i * (d - r) := w64b (bm hA r4) (by decide)
      have x2 : wrap64 (apO l r d i * (d + l)) = apO l r d i * (d + l) := w64b (bm hO r2) (by decide)
      rw [if_neg tm, w4, w5, x1, x2, ← eA, ← eO]
      exact next
theorem impl_apartAt_eq (a l r d : Int) (h : isCh a l r d) (n : Nat) (hn : n ≤ 7) (k : Nat) (hk : 10 < k) : impl_apartAt.f k a l r d (n : Int) = some (apA a l r d n, apO l r d n) := by
  have := impl_apartAt_l0 a l r d h n hn n k 0 (by omega) (by omega)
  unfold impl_apartAt.f
  simpa [apA, apO] using this

theorem impl_turnTime_eq (a l r d : Int) (h : isCh a l r d) (n : Nat) (hn : n ≤ 7) (k : Nat) (hk : (1000000000000000000 : Int) < k) : impl_turnTime.f k a l r d (n : Int) = some (lowN (apT a l r d n) (apO l r d n), lowD (apT a l r d n) (apO l r d n)) := by
  have inv := apT_inv (a := a) (l := l) (r := r) (d := d) n
  obtain ⟨hT, hP, hA, hQ, hO⟩ := st_ranges h n hn
  have o1 := apO_pos h n
  have g := h
  unfold isCh at g
  have sc := low_scale (apT a l r d n) (apO l r d n) (l + r) (by omega)
  unfold impl_turnTime.f
  rw [impl_apartAt_eq a l r d h n hn k (by omega)]
  simp only [Option.bind_some]
  have p1 := bm (A := 1000) (B := 163840000000) (a := a) (b := apO l r d n) (by omega) hO
  have p2 := bm (A := 163840000000) (B := 40) (a := apO l r d n) (b := l + r) hO (by omega)
  have p3 : 0 < apO l r d n * (l + r) := Int.mul_pos (by omega) (by omega)
  have e1 : a * apO l r d n - apA a l r d n = apT a l r d n * (l + r) := by
    rw [← inv, Int.mul_comm (l + r)]
    omega
  have p4 : -163840000000000 ≤ apT a l r d n * (l + r) ∧ apT a l r d n * (l + r) ≤ 163840000000000 := by omega
  rw [w64 (x := a * apO l r d n) ⟨by omega, by omega⟩, e1, w64 (x := l + r) ⟨by omega, by omega⟩, w64 (x := apT a l r d n * (l + r)) ⟨by omega, by omega⟩, w64 (x := apO l r d n * (l + r)) ⟨by omega, by omega⟩,
    impl_lowest_eq _ _ _ p3 ⟨by omega, by omega⟩ (by omega) ⟨by omega, by omega⟩, sc.1, sc.2]
  rfl

theorem impl_turnsUntil_l0 (a l r d n e : Int) (h : isCh a l r d) (hn : 0 ≤ n ∧ n ≤ 1000) (he : 1 ≤ e ∧ e ≤ 100) (q : Nat) : ∀ (k i : Nat), i + q = 7 → (1000000000000000000 + (q : Int)) < k →
    impl_turnsUntil.l0 k n e (i : Int) a l r d = some ((fst (upT a l r d n e) q i : Nat) : Int) := by
  induction q with
  | zero =>
    intro k i hi hk
    obtain ⟨k, rfl⟩ : ∃ m, k = m + 1 := ⟨k - 1, by omega⟩
    simp only [impl_turnsUntil.l0]
    rw [if_neg (by omega)]
    rfl
  | succ q ih =>
    intro k i hi hk
    obtain ⟨k, rfl⟩ : ∃ m, k = m + 1 := ⟨k - 1, by omega⟩
    have e1 : wrap64 ((i : Int) + 1) = ((i + 1 : Nat) : Int) := by rw [w64 (by omega)]; rfl
    have next := ih k (i + 1) (by omega) (by omega)
    have tt := impl_turnTime_eq a l r d h (i + 1) (by omega) k (by omega)
    obtain ⟨hT, hP, hA, hQ, hO⟩ := st_ranges h (i + 1) (by omega)
    have o1 := apO_pos h (i + 1)
    have c1 := low_nonneg (a := apT a l r d (i + 1)) (b := apO l r d (i + 1)) hT.1 (by omega)
    have c2 := lowD_range (a := apT a l r d (i + 1)) (b := apO l r d (i + 1)) (by omega)
    have w1 : wrap64 (lowN (apT a l r d (i + 1)) (apO l r d (i + 1)) * e) = lowN (apT a l r d (i + 1)) (apO l r d (i + 1)) * e := w64b (bm (B := 100) (show 0 ≤ _ ∧ _ ≤ 163840000000000 from ⟨c1.1, Int.le_trans c1.2 hT.2⟩) (by omega)) (by decide)
    have w2 : wrap64 (n * lowD (apT a l r d (i + 1)) (apO l r d (i + 1))) = n * lowD (apT a l r d (i + 1)) (apO l r d (i + 1)) := w64b (bm hn (show 0 ≤ _ ∧ _ ≤ 163840000000 from ⟨by omega, Int.le_trans c2.2 hO.2⟩)) (by decide)
    have lt := low_test (apT a l r d (i + 1)) (apO l r d (i + 1)) n e (by omega)
    clear hT hP hA hQ hO c1 c2 o1
    have hle : (i : Int) ≤ 6 := by omega
    simp only [impl_turnsUntil.l0]
    rw [if_pos hle, e1, tt]
    simp only [Option.bind_some]
    rw [w1, w2]
    show _ = some (((if decide (apT a l r d (i + 1) * e ≤ n * apO l r d (i + 1)) = true then fst _ q (i + 1) else i : Nat)) : Int)
    by_cases z : apT a l r d (i + 1) * e ≤ n * apO l r d (i + 1)
    · rw [if_neg (fun y => absurd (lt.mp y) (by omega)), decide_eq_true z, if_pos rfl]
      exact next
    · rw [if_pos (lt.mpr (by omega)), decide_eq_false z, if_neg Bool.false_ne_true]
theorem impl_turnsUntil_eq (a l r d n e : Int) (h : isCh a l r d) (hn : 0 ≤ n ∧ n ≤ 1000) (he : 1 ≤ e ∧ e ≤ 100) (k : Nat) (hk : (1000000000000000100 : Int) < k) : impl_turnsUntil.f k a l r d n e = some ((fst (upT a l r d n e) 7 0 : Nat) : Int) := by
  unfold impl_turnsUntil.f
  exact impl_turnsUntil_l0 a l r d n e h hn he 7 k 0 (by omega) (by omega)

theorem w64s {x B : Int} (h : -B ≤ x ∧ x ≤ B) (hB : B ≤ 9223372036854775807) : wrap64 x = x := w64 ⟨by omega, by omega⟩
/-- as far as it ran since the last turn: the numbers of both are small -/
theorem place_wraps {T O P n e d l r a t b : Int} (hT : 0 ≤ T ∧ T ≤ 4096000000000) (hO : 0 ≤ O ∧ O ≤ 4096000000) (hP : 0 ≤ P ∧ P ≤ 4096000000000) (hn : 0 ≤ n ∧ n ≤ 1000) (he : 0 ≤ e ∧ e ≤ 100) (hd : 0 ≤ d ∧ d ≤ 20) :
    wrap64 (P * e) = P * e ∧ wrap64 (n * O) = n * O ∧ wrap64 (T * e) = T * e ∧ wrap64 (n * O - T * e) = n * O - T * e ∧ wrap64 (d * (n * O - T * e)) = d * (n * O - T * e) ∧ wrap64 (-d * (n * O - T * e)) = -d * (n * O - T * e) ∧
    wrap64 (P * e + d * (n * O - T * e)) = P * e + d * (n * O - T * e) ∧ wrap64 (P * e + -d * (n * O - T * e)) = P * e + -d * (n * O - T * e) ∧ wrap64 (O * e) = O * e ∧
    (-100000000000000000 ≤ P * e + d * (n * O - T * e) ∧ P * e + d * (n * O - T * e) ≤ 100000000000000000) ∧ (-100000000000000000 ≤ P * e + -d * (n * O - T * e) ∧ P * e + -d * (n * O - T * e) ≤ 100000000000000000) := by
  have p1 := bm hP he
  have p2 := bm hn hO
  have p3 := bm hT he
  have p4 := bm hO he
  generalize P * e = pe at *
  generalize n * O = no at *
  generalize T * e = te at *
  have p5 : -409600000000000 ≤ no - te ∧ no - te ≤ 409600000000000 := by omega
  have p6 := bms p5 hd
  have e1 : d * (no - te) = (no - te) * d := Int.mul_comm _ _
  have e2 : -d * (no - te) = -((no - te) * d) := by rw [Int.neg_mul, e1]
  rw [e1, e2]
  generalize (no - te) * d = x at *
  refine ⟨w64s (B := 409600000000000) (by omega) (by decide), w64s (B := 409600000000000) (by omega) (by decide), w64s (B := 409600000000000) (by omega) (by decide), w64s (B := 409600000000000) (by omega) (by decide), w64s (B := 100000000000000000) (by omega) (by decide), w64s (B := 100000000000000000) (by omega) (by decide), w64s (B := 100000000000000000) (by omega) (by decide), w64s (B := 100000000000000000) (by omega) (by decide), w64b p4 (by decide), by omega, by omega⟩
theorem impl_wraps {t b n e d l r a : Int} (ht : 0 ≤ t ∧ t ≤ 4096000000000) (hb : 0 ≤ b ∧ b ≤ 4096000000) (hn : 0 ≤ n ∧ n ≤ 1000) (he : 0 ≤ e ∧ e ≤ 100) (hd : 0 ≤ d ∧ d ≤ 20) (hl : 0 ≤ l ∧ l ≤ 20) (hr : 0 ≤ r ∧ r ≤ 20) (ha : 0 ≤ a ∧ a ≤ 1000) :
    wrap64 (a * b) = a * b ∧ wrap64 (a * b * e) = a * b * e ∧ wrap64 (r * t) = r * t ∧ wrap64 (r * t * e) = r * t * e ∧ wrap64 (a * b * e - r * t * e) = a * b * e - r * t * e ∧ wrap64 (n * b) = n * b ∧ wrap64 (t * e) = t * e ∧ wrap64 (n * b - t * e) = n * b - t * e ∧ wrap64 (d * (n * b - t * e)) = d * (n * b - t * e) ∧
    wrap64 (a * b * e - r * t * e - d * (n * b - t * e)) = a * b * e - r * t * e - d * (n * b - t * e) ∧ wrap64 (l * t) = l * t ∧ wrap64 (l * t * e) = l * t * e ∧ wrap64 (l * t * e + d * (n * b - t * e)) = l * t * e + d * (n * b - t * e) ∧ wrap64 (b * e) = b * e ∧
    (-100000000000000000 ≤ a * b * e - r * t * e - d * (n * b - t * e) ∧ a * b * e - r * t * e - d * (n * b - t * e) ≤ 100000000000000000) ∧ (-100000000000000000 ≤ l * t * e + d * (n * b - t * e) ∧ l * t * e + d * (n * b - t * e) ≤ 100000000000000000) := by
  have q1 := bm ha hb
  have q2 := bm q1 he
  have q3 := bm hr ht
  have q4 := bm q3 he
  have q5 := bm hn hb
  have q6 := bm ht he
  have q7 := bm hl ht
  have q8 := bm q7 he
  have q9 := bm hb he
  generalize a * b * e = abe at *
  generalize a * b = ab at *
  generalize r * t * e = rte at *
  generalize r * t = rt at *
  generalize n * b = nb at *
  generalize t * e = te at *
  generalize l * t * e = lte at *
  generalize l * t = lt at *
  have p5 : -409600000000000 ≤ nb - te ∧ nb - te ≤ 409600000000000 := by omega
  have p6 := bms p5 hd
  have e1 : d * (nb - te) = (nb - te) * d := Int.mul_comm _ _
  rw [e1]
  generalize (nb - te) * d = x at *
  refine ⟨w64b q1 (by decide), w64b q2 (by decide), w64b q3 (by decide), w64b q4 (by decide), w64s (B := 100000000000000000) (by omega) (by decide), w64b q5 (by decide), w64b q6 (by decide), w64s (B := 100000000000000000) (by omega) (by decide), w64s (B := 100000000000000000) (by omega) (by decide), w64s (B := 100000000000000000) (by omega) (by decide), w64b q7 (by decide), w64b q8 (by decide), w64s (B := 100000000000000000) (by omega) (by decide), w64b q9 (by decide), by omega, by omega⟩
theorem id_odd (T O t b a r n e d : Int) (cc : t * O = T * b) : ((a * O - r * T) * e + -d * (n * O - T * e)) * (b * e) = (a * b * e - r * t * e - d * (n * b - t * e)) * (O * e) := by grind
theorem id_even (T O t b l n e d : Int) (cc : t * O = T * b) : (l * T * e + d * (n * O - T * e)) * (b * e) = (l * t * e + d * (n * b - t * e)) * (O * e) := by grind
theorem apO_le6 {a l r d : Int} (h : isCh a l r d) (k : Nat) (hk : k ≤ 6) : apO l r d k ≤ 4096000000 := by
  have q := apO_le h
  obtain rfl | rfl | rfl | rfl | rfl | rfl | rfl : k = 0 ∨ k = 1 ∨ k = 2 ∨ k = 3 ∨ k = 4 ∨ k = 5 ∨ k = 6 := by omega
  all_goals omega
theorem par_odd (m : Nat) : (Int.tmod (m : Int) 2 = 1) ↔ ¬ m % 2 = 0 := by
  rw [Int.tmod_eq_emod_of_nonneg (Int.natCast_nonneg m)]
  omega
theorem place_both (a l r d n e : Int) (h : isCh a l r d) (ht : isTime a l r n e) (k : Nat) (hk : (1000000000000000300 : Int) < k) : ∃ y, spec_DogPlace.f (k + 1) a l r d n e = some y ∧ impl_DogPlace.f k a l r d n e = some y := by
  have g := h
  unfold isCh at g
  obtain ⟨hn, he, hle⟩ := ht
  have hd : 0 ≤ d ∧ d ≤ 20 := by omega
  have hl : 0 ≤ l ∧ l ≤ 20 := by omega
  have hr : 0 ≤ r ∧ r ≤ 20 := by omega
  have ha : 0 ≤ a ∧ a ≤ 1000 := by omega
  have he0 : 0 ≤ e ∧ e ≤ 100 := by omega
  have hlr : 0 ≤ l + r ∧ l + r ≤ 40 := by omega
  have x1 := bm hn hlr
  have x2 := bm ha he0
  have w1 : wrap64 (l + r) = l + r := w64b hlr (by decide)
  have w2 : wrap64 (n * (l + r)) = n * (l + r) := w64b x1 (by decide)
  have w3 : wrap64 (a * e) = a * e := w64b x2 (by decide)
  have s0 : spec_DogPlace.f (k + 1) a l r d n e = spec_DogPlace.j0 (k + 1) n e false a l r d := by
    simp only [spec_DogPlace.f, spec_doGood_yes a l r d h, spec_doTime_eq a l r d n e h, Option.bind_some, decide_eq_true (show isTime a l r n e from ⟨hn, he, hle⟩), if_true, Bool.not_true]
  rw [s0]
  simp only [spec_DogPlace.j0, impl_DogPlace.f, impl_isChaseTime_eq a l r d n e h, Option.bind_some, decide_eq_true (show isTime a l r n e from ⟨hn, he, hle⟩), if_true, Bool.false_eq_true, if_false]
  rw [w1, w2, w3]
  by_cases q : n * (l + r) = a * e
  · have p1 := bm ha hl
    have p2 := bm ha hr
    have p3 := bm hl hn
    have key := low_eq (a := a * l) (b := l + r) (c := l * n) (d := e) (by omega) (by omega) (by
      have : l * n * (l + r) = l * (n * (l + r)) := Int.mul_assoc _ _ _
      rw [this, q]
      grind)
    refine ⟨(lowN (l * n) e, lowD (l * n) e, true), ?_, ?_⟩
    · rw [if_pos q]
      simp only [spec_DistanceOf.f, spec_doGood_yes a l r d h, Option.bind_some, if_true]
      rw [w1, w64b p1 (by decide), w64b p2 (by decide), spec_meLow_eq _ _ _ (by omega) (by omega) (by omega) (by omega)]
      simp only [Option.bind_some]
      rw [spec_meLow_eq _ _ _ (by omega) (by omega) (by omega) (by omega), key.1, key.2]
      rfl
    · rw [if_pos q, w64b p3 (by decide), impl_lowest_eq _ _ _ (by omega) (by omega) (by omega) (by omega)]
      rfl
  · rw [if_neg q, if_neg q, spec_doBefore_eq a l r d n e h hn he k (by omega), impl_turnsUntil_eq a l r d n e h hn he k (by omega)]
    simp only [Option.bind_some]
    generalize fst (upT a l r d n e) 7 0 = m
    by_cases z : (m : Int) > 6
    · rw [if_pos z, if_pos z]
      exact ⟨_, rfl, rfl⟩
    · rw [if_neg z, if_neg z, spec_doRun_eq a l r d h m (by omega) k (by omega), impl_turnTime_eq a l r d h m (by omega) k (by omega)]
      simp only [Option.bind_some]
      rw [if_pos (Int.natCast_nonneg m), if_pos (by simp only [List.length_map, List.length_range]; omega), rd_st a l r d m m (Nat.le_refl m)]
      simp only [stAt]
      have o1 := apO_pos h m
      have o2 := apO_le6 h m (by omega)
      have t1 := apT_nonneg h m
      have t2 := apT_le h m
      have p1 := apP_range h m
      have pe := apP_eq (a := a) (l := l) (r := r) (d := d) m
      have hT : 0 ≤ apT a l r d m ∧ apT a l r d m ≤ 4096000000000 := ⟨t1, by omega⟩
      have hO : 0 ≤ apO l r d m ∧ apO l r d m ≤ 4096000000 := ⟨by omega, o2⟩
      have hP : 0 ≤ apP a l r d m ∧ apP a l r d m ≤ 4096000000000 := ⟨p1.1, by omega⟩
      have c1 := low_nonneg (a := apT a l r d m) (b := apO l r d m) t1 (by omega)
      have c2 := lowD_range (a := apT a l r d m) (b := apO l r d m) (by omega)
      have cc := low_cross (apT a l r d m) (apO l r d m)
      have ht' : 0 ≤ lowN (apT a l r d m) (apO l r d m) ∧ lowN (apT a l r d m) (apO l r d m) ≤ 4096000000000 := ⟨c1.1, by omega⟩
      have hb' : 0 ≤ lowD (apT a l r d m) (apO l r d m) ∧ lowD (apT a l r d m) (apO l r d m) ≤ 4096000000 := ⟨by omega, by omega⟩
      have bpos : 0 < lowD (apT a l r d m) (apO l r d m) := by omega
      have opos : 0 < apO l r d m := by omega
      have po := par_odd m
      clear t1 t2 p1 c1 c2 o1 o2 x1 x2 hle
      generalize lowN (apT a l r d m) (apO l r d m) = t at *
      generalize lowD (apT a l r d m) (apO l r d m) = b at *
      generalize apT a l r d m = T at *
      generalize apO l r d m = O at *
      generalize apP a l r d m = P at *
      obtain ⟨y1, y2, y3, y4, y5, y6, y7, y8, y9, y10, y11⟩ := place_wraps (l := l) (r := r) (a := a) (t := t) (b := b) hT hO hP hn he0 hd
      obtain ⟨v1, v2, v3, v4, v5, v6, v7, v8, v9, v10, v11, v12, v13, v14, v15, v16⟩ := impl_wraps ht' hb' hn he0 hd hl hr ha
      have oe : 0 < O * e := Int.mul_pos opos (by omega)
      have be : 0 < b * e := Int.mul_pos bpos (by omega)
      have oe2 := (bm hO he0).2
      have be2 := (bm hb' he0).2
      have wd : wrap64 (-d) = -d := w64 (by omega)
      by_cases odd : Int.tmod (m : Int) 2 = 1
      · rw [if_neg (po.mp odd)] at pe
        rw [if_pos odd, if_pos odd, wd, y1, y2, y3, y4, y6, y8, y9, v1, v2, v3, v4, v5, v6, v7, v8, v9, v10, v14]
        rw [spec_meLow_eq _ _ _ oe (by omega) (by omega) (by omega), impl_lowest_eq _ _ _ be (by omega) (by omega) (by omega)]
        have key := low_eq (a := P * e + -d * (n * O - T * e)) (b := O * e) (c := a * b * e - r * t * e - d * (n * b - t * e)) (d := b * e) oe be (by
          rw [pe]
          exact id_odd T O t b a r n e d cc)
        rw [key.1, key.2]
        exact ⟨_, rfl, rfl⟩
      · rw [if_pos (by
          by_cases q2 : m % 2 = 0
          · exact q2
          · exact absurd (po.mpr q2) odd)] at pe
        rw [if_neg odd, if_neg odd, y1, y2, y3, y4, y5, y7, y9, v11, v12, v6, v7, v8, v9, v13, v14]
        rw [spec_meLow_eq _ _ _ oe (by omega) (by omega) (by omega), impl_lowest_eq _ _ _ be (by omega) (by omega) (by omega)]
        have key := low_eq (a := P * e + d * (n * O - T * e)) (b := O * e) (c := l * t * e + d * (n * b - t * e)) (d := b * e) oe be (by
          rw [pe]
          exact id_even T O t b l n e d cc)
        rw [key.1, key.2]
        exact ⟨_, rfl, rfl⟩

theorem holds (a l r d n e : Int) (_ : (Lit.int .i64 a).wf = true) (_ : (Lit.int .i64 l).wf = true) (_ : (Lit.int .i64 r).wf = true) (wd : (Lit.int .i64 d).wf = true) (_ : (Lit.int .i64 n).wf = true) (_ : (Lit.int .i64 e).wf = true) : ∃ k, laws_FnExactDogPlace.f k a l r d n e = some true := by
  obtain ⟨k, hk⟩ : ∃ k : Nat, (1000000000000000400 : Int) < k := ⟨1000000000000000401, by decide⟩
  refine ⟨k + 1, ?_⟩
  by_cases h : isCh a l r d
  · by_cases t : isTime a l r n e
    · obtain ⟨y, y1, y2⟩ := place_both a l r d n e h t k (by omega)
      have y3 := impl_DogPlace.mono a l r d n e k _ y2
      simp [laws_FnExactDogPlace.f, laws_toChase.f, y1, y3]
    · simp [laws_FnExactDogPlace.f, laws_toChase.f, spec_DogPlace.f, impl_DogPlace.f, spec_doGood_yes a l r d h, spec_doTime_eq a l r d n e h, impl_isChaseTime_eq a l r d n e h, t, spec_DogPlace.j0]
  · simp [laws_FnExactDogPlace.f, laws_toChase.f, spec_DogPlace.f, impl_DogPlace.f, spec_doGood_no a l r d (bounds_i64 wd) h, impl_isChaseTime_no a l r d n e h, spec_DogPlace.j0]

end Go.Proofs.Ytigjjeecoplpnaa.QFnExactDogPlace
