/- The law FnDogsTurn in plain Lean, over the printed functions: it returns true for every input (no condition). -/
import Derived.Test.YtajlcomankjcjabGreatDoorPFnDogsTurnx20
import Derived.OpenShut
namespace Go.Proofs.YtajlcomankjcjabGreatDoor.QFnDogsTurn
open Go.RowKit Go.ChangeShapes Go.WideShapes Go.Proofs.YtajlcomankjcjabGreatDoor.PFnDogsTurn Go.Proofs.YtajlcomankjcjabGreatDoorW.PrintWords Go.Proofs.YtajlcomankjcjabGreatDoorW.PrintLast Go.Proofs.YtajlcomankjcjabGreatDoorW.PrintMore
set_option linter.unusedVariables false
set_option linter.unusedSimpArgs false
theorem w64 {x : Int} (h : -9223372036854775808 ≤ x ∧ x ≤ 9223372036854775807) : wrap64 x = x := by unfold wrap64; omega
theorem bm {a b A B : Int} (ha : 0 ≤ a ∧ a ≤ A) (hb : 0 ≤ b ∧ b ≤ B) : 0 ≤ a * b ∧ a * b ≤ A * B :=
  ⟨Int.mul_nonneg ha.1 hb.1, Int.mul_le_mul ha.2 hb.2 hb.1 (Int.le_trans ha.1 ha.2)⟩
theorem gcd_step (a b : Int) (ha : 0 ≤ a) (hb : 0 ≤ b) : Int.gcd b (a.tmod b) = Int.gcd a b := by
  obtain ⟨m, rfl⟩ := Int.eq_ofNat_of_zero_le ha
  obtain ⟨n, rfl⟩ := Int.eq_ofNat_of_zero_le hb
  rw [← Int.ofNat_tmod]
  show Nat.gcd n (m % n) = Nat.gcd m n
  rw [Nat.gcd_comm n, ← Nat.gcd_rec, Nat.gcd_comm]
def lowN (a b : Int) : Int := a / (Int.gcd a b : Int)
def lowD (a b : Int) : Int := b / (Int.gcd a b : Int)
theorem gpos {a b : Int} (hb : 0 < b) : 0 < (Int.gcd a b : Int) := by
  have := Int.gcd_pos_of_ne_zero_right a (show b ≠ 0 by omega)
  omega
theorem gle {a b : Int} (hb : 0 < b) : (Int.gcd a b : Int) ≤ b := Int.le_of_dvd hb (Int.gcd_dvd_right a b)
theorem tdiv_gcd_l (a b : Int) : a.tdiv (Int.gcd a b) = lowN a b := by
  unfold lowN
  exact (Int.tdiv_eq_ediv_of_dvd (Int.gcd_dvd_left a b))
theorem tdiv_gcd_r (a b : Int) : b.tdiv (Int.gcd a b) = lowD a b := by
  unfold lowD
  exact (Int.tdiv_eq_ediv_of_dvd (Int.gcd_dvd_right a b))
theorem low_range {a b M : Int} (hb : 0 < b) (ha : -M ≤ a ∧ a ≤ M) : -M ≤ lowN a b ∧ lowN a b ≤ M := by
  unfold lowN
  have g := gpos (a := a) hb
  have hM : 0 ≤ M := by omega
  have e := Int.ediv_mul_cancel (Int.gcd_dvd_left a b)
  constructor
  · apply Int.le_ediv_of_mul_le g
    have : -M * (Int.gcd a b : Int) ≤ -M * 1 := Int.mul_le_mul_of_nonpos_left (by omega) (by omega)
    omega
  · rcases Int.le_total 0 a with h | h
    · have := Int.ediv_le_self (Int.gcd a b : Int) h
      omega
    · have := Int.ediv_le_ediv g h
      rw [Int.zero_ediv] at this
      omega
theorem lowD_range {a b : Int} (hb : 0 < b) : 1 ≤ lowD a b ∧ lowD a b ≤ b := by
  unfold lowD
  have g := gpos (a := a) hb
  constructor
  · apply Int.le_ediv_of_mul_le g
    have := gle (a := a) hb
    omega
  · exact Int.ediv_le_self _ (by omega)
theorem bms {a b A B : Int} (ha : -A ≤ a ∧ a ≤ A) (hb : 0 ≤ b ∧ b ≤ B) : -(A * B) ≤ a * b ∧ a * b ≤ A * B := by
  have hA : 0 ≤ A := by omega
  rcases Int.le_total 0 a with h | h
  · have := bm ⟨h, ha.2⟩ hb
    have := Int.mul_nonneg hA (Int.le_trans hb.1 hb.2)
    omega
  · have := bm (a := -a) (A := A) ⟨by omega, by omega⟩ hb
    have e : -a * b = -(a * b) := Int.neg_mul a b
    omega
theorem low_scale (a b c : Int) (hc : 0 < c) : lowN (a * c) (b * c) = lowN a b ∧ lowD (a * c) (b * c) = lowD a b := by
  have e : (Int.gcd (a * c) (b * c) : Int) = (Int.gcd a b : Int) * c := by
    rw [Int.gcd_mul_right]
    have : (c.natAbs : Int) = c := by omega
    rw [Int.natCast_mul, this]
  unfold lowN lowD
  rw [e]
  exact ⟨Int.mul_ediv_mul_of_pos_left a _ hc, Int.mul_ediv_mul_of_pos_left b _ hc⟩
theorem w64b {x B : Int} (h : 0 ≤ x ∧ x ≤ B) (hB : B ≤ 9223372036854775807) : wrap64 x = x := w64 ⟨Int.le_trans (by decide) h.1, Int.le_trans h.2 hB⟩
theorem ad {x y A B : Int} (hx : 0 ≤ x ∧ x ≤ A) (hy : 0 ≤ y ∧ y ≤ B) : 0 ≤ x + y ∧ x + y ≤ A + B := ⟨Int.add_nonneg hx.1 hy.1, Int.add_le_add hx.2 hy.2⟩

theorem spec_l1Most_eq (a b : Int) : spec_l1Most.f a b = some (if a > b then a else b) := by
  unfold spec_l1Most.f
  split <;> rfl

theorem spec_l1In_eq (a b c : Int) : spec_l1In.f a b c = some (decide (b ≤ a ∧ a ≤ c)) := by
  unfold spec_l1In.f
  by_cases h : b ≤ a <;> simp [h]

/-- what a chase is -/
def isCh (a l r d : Int) : Prop := (1 ≤ a ∧ a ≤ 1000) ∧ (0 ≤ l ∧ l ≤ 20) ∧ (0 ≤ r ∧ r ≤ 20) ∧ 0 < l + r ∧ l < d ∧ r < d ∧ d ≤ 20
theorem spec_doGood_no (a l r d : Int) (wd : -9223372036854775808 ≤ d ∧ d ≤ 9223372036854775807) (h : ¬ isCh a l r d) : spec_doGood.f a l r d = some false := by
  unfold isCh at h
  simp only [spec_doGood.f, spec_l1In_eq, spec_l1Most_eq, Option.bind_some]
  by_cases h1 : 1 ≤ a ∧ a ≤ 1000
  · by_cases h2 : 0 ≤ l ∧ l ≤ 20
    · by_cases h3 : 0 ≤ r ∧ r ≤ 20
      · simp only [h1, h2, h3, and_self, decide_true, if_true]
        rw [w64 (by omega)]
        by_cases h4 : l + r > 0
        · rw [if_pos h4, w64 (by split <;> omega)]
          simp only [Option.some.injEq, decide_eq_false_iff_not]
          split <;> omega
        · rw [if_neg h4]
      · simp [h1, h2, h3]
    · simp [h1, h2]
  · simp [h1]
theorem spec_doGood_yes (a l r d : Int) (h : isCh a l r d) : spec_doGood.f a l r d = some true := by
  unfold isCh at h
  obtain ⟨h1, h2, h3, h4, h5, h6, h7⟩ := h
  simp only [spec_doGood.f, spec_l1In_eq, spec_l1Most_eq, Option.bind_some, h1, h2, h3, and_self, decide_true, if_true]
  rw [w64 (by omega), if_pos (show l + r > 0 by omega), w64 (by split <;> omega)]
  simp only [Option.some.injEq, decide_eq_true_eq]
  split <;> omega

/-- by what both go towards each other in the turn behind the turn k -/
def both (l r d : Int) (k : Nat) : Int := if k % 2 = 0 then d + r else d + l
def apO (l r d : Int) : Nat → Int
  | 0 => 1
  | k + 1 => apO l r d k * both l r d k
def apA (a l r d : Int) : Nat → Int
  | 0 => a
  | k + 1 => apA a l r d k * (both l r d k - l - r)
def apT (a l r d : Int) : Nat → Int
  | 0 => 0
  | k + 1 => apT a l r d k * both l r d k + apA a l r d k
def apP (a l r d : Int) : Nat → Int
  | 0 => 0
  | k + 1 => apP a l r d k * both l r d k + (if k % 2 = 0 then d else -d) * apA a l r d k
def apQ (a l r d : Int) : Nat → Int
  | 0 => 0
  | k + 1 => apQ a l r d k * both l r d k + (if k % 2 = 0 then apA a l r d k else 0)
theorem both_range {a l r d : Int} (h : isCh a l r d) (k : Nat) : 1 ≤ both l r d k ∧ both l r d k ≤ 40 ∧ 1 ≤ both l r d k - l - r ∧ both l r d k - l - r ≤ 20 := by
  unfold isCh at h
  unfold both
  split <;> omega
theorem apO_pos {a l r d : Int} (h : isCh a l r d) (k : Nat) : 1 ≤ apO l r d k := by
  induction k with
  | zero => exact Int.le_refl 1
  | succ k ih =>
    have b := both_range h k
    simp only [apO]
    have := Int.mul_le_mul ih b.1 (by omega) (by omega)
    omega
theorem apO_step {a l r d : Int} (h : isCh a l r d) (k : Nat) (N : Int) (hN : apO l r d k ≤ N) : apO l r d (k + 1) ≤ N * 40 := by
  have b := both_range h k
  have p := apO_pos h k
  simp only [apO]
  exact Int.mul_le_mul hN b.2.1 (by omega) (by omega)
theorem apO_le {a l r d : Int} (h : isCh a l r d) : apO l r d 0 ≤ 1 ∧ apO l r d 1 ≤ 40 ∧ apO l r d 2 ≤ 1600 ∧ apO l r d 3 ≤ 64000 ∧ apO l r d 4 ≤ 2560000 ∧ apO l r d 5 ≤ 102400000 ∧ apO l r d 6 ≤ 4096000000 ∧ apO l r d 7 ≤ 163840000000 := by
  have h0 : apO l r d 0 ≤ 1 := Int.le_refl 1
  have h1 := apO_step h 0 _ h0
  have h2 := apO_step h 1 _ h1
  have h3 := apO_step h 2 _ h2
  have h4 := apO_step h 3 _ h3
  have h5 := apO_step h 4 _ h4
  have h6 := apO_step h 5 _ h5
  have h7 := apO_step h 6 _ h6
  exact ⟨h0, h1, h2, h3, h4, h5, h6, h7⟩
theorem apO_le7 {a l r d : Int} (h : isCh a l r d) (k : Nat) (hk : k ≤ 7) : apO l r d k ≤ 163840000000 := by
  have q := apO_le h
  obtain rfl | rfl | rfl | rfl | rfl | rfl | rfl | rfl : k = 0 ∨ k = 1 ∨ k = 2 ∨ k = 3 ∨ k = 4 ∨ k = 5 ∨ k = 6 ∨ k = 7 := by omega
  all_goals omega
theorem apO_le4 {a l r d : Int} (h : isCh a l r d) (k : Nat) (hk : k ≤ 4) : apO l r d k ≤ 2560000 := by
  have q := apO_le h
  obtain rfl | rfl | rfl | rfl | rfl : k = 0 ∨ k = 1 ∨ k = 2 ∨ k = 3 ∨ k = 4 := by omega
  all_goals omega
theorem apA_pos {a l r d : Int} (h : isCh a l r d) (k : Nat) : 1 ≤ apA a l r d k := by
  induction k with
  | zero =>
    unfold isCh at h
    exact h.1.1
  | succ k ih =>
    have b := both_range h k
    simp only [apA]
    have := Int.mul_le_mul ih b.2.2.1 (by omega) (by omega)
    omega
/-- what is left and what is gone are the whole -/
theorem apT_inv {a l r d : Int} (k : Nat) : (l + r) * apT a l r d k + apA a l r d k = a * apO l r d k := by
  induction k with
  | zero => simp [apT, apA, apO]
  | succ k ih =>
    simp only [apT, apA, apO]
    have e : (l + r) * (apT a l r d k * both l r d k + apA a l r d k) + apA a l r d k * (both l r d k - l - r) = ((l + r) * apT a l r d k + apA a l r d k) * both l r d k := by grind
    rw [e, ih]
    grind
theorem apT_nonneg {a l r d : Int} (h : isCh a l r d) (k : Nat) : 0 ≤ apT a l r d k := by
  induction k with
  | zero => exact Int.le_refl 0
  | succ k ih =>
    have b := both_range h k
    have p := apA_pos h k
    simp only [apT]
    have := Int.mul_nonneg ih (show 0 ≤ both l r d k by omega)
    omega
theorem aO_le {a l r d : Int} (h : isCh a l r d) (k : Nat) : a * apO l r d k ≤ 1000 * apO l r d k := by
  have p := apO_pos h k
  unfold isCh at h
  exact Int.mul_le_mul_of_nonneg_right (by omega) (by omega)
theorem apA_le {a l r d : Int} (h : isCh a l r d) (k : Nat) : apA a l r d k ≤ 1000 * apO l r d k := by
  have i := apT_inv (a := a) (l := l) (r := r) (d := d) k
  have t := apT_nonneg h k
  have q := aO_le h k
  unfold isCh at h
  have := Int.mul_nonneg (show 0 ≤ l + r by omega) t
  omega
theorem lrT_le {a l r d : Int} (h : isCh a l r d) (k : Nat) : (l + r) * apT a l r d k ≤ 1000 * apO l r d k := by
  have i := apT_inv (a := a) (l := l) (r := r) (d := d) k
  have p := apA_pos h k
  have q := aO_le h k
  omega
theorem apT_le {a l r d : Int} (h : isCh a l r d) (k : Nat) : apT a l r d k ≤ 1000 * apO l r d k := by
  have q := lrT_le h k
  have t := apT_nonneg h k
  unfold isCh at h
  have := Int.mul_le_mul_of_nonneg_right (show 1 ≤ l + r by omega) t
  omega
theorem apP_eq {a l r d : Int} (k : Nat) : apP a l r d k = if k % 2 = 0 then l * apT a l r d k else a * apO l r d k - r * apT a l r d k := by
  induction k with
  | zero => simp [apP, apT]
  | succ k ih =>
    have i := apT_inv (a := a) (l := l) (r := r) (d := d) k
    simp only [apP, apT, apO]
    rw [ih]
    by_cases e : k % 2 = 0
    · have e1 : ¬ (k + 1) % 2 = 0 := by omega
      have eb : both l r d k = d + r := by unfold both; rw [if_pos e]
      rw [if_pos e, if_pos e, if_neg e1, eb]
      grind
    · have e1 : (k + 1) % 2 = 0 := by omega
      have eb : both l r d k = d + l := by unfold both; rw [if_neg e]
      rw [if_neg e, if_neg e, if_pos e1, eb]
      grind
theorem apP_range {a l r d : Int} (h : isCh a l r d) (k : Nat) : 0 ≤ apP a l r d k ∧ apP a l r d k ≤ 1000 * apO l r d k := by
  have i := apT_inv (a := a) (l := l) (r := r) (d := d) k
  have t := apT_nonneg h k
  have p := apA_pos h k
  have q := aO_le h k
  rw [apP_eq]
  unfold isCh at h
  have m1 := Int.mul_nonneg (show 0 ≤ l by omega) t
  have m2 := Int.mul_nonneg (show 0 ≤ r by omega) t
  have e : (l + r) * apT a l r d k = l * apT a l r d k + r * apT a l r d k := Int.add_mul _ _ _
  split <;> omega
theorem apQ_range {a l r d : Int} (h : isCh a l r d) (k : Nat) : 0 ≤ apQ a l r d k ∧ apQ a l r d k ≤ apT a l r d k := by
  induction k with
  | zero => exact ⟨Int.le_refl 0, Int.le_refl 0⟩
  | succ k ih =>
    have b := both_range h k
    have p := apA_pos h k
    simp only [apQ, apT]
    have m1 := Int.mul_nonneg ih.1 (show 0 ≤ both l r d k by omega)
    have m2 := Int.mul_le_mul_of_nonneg_right ih.2 (show 0 ≤ both l r d k by omega)
    split <;> omega
theorem low_eq {a b c d : Int} (hb : 0 < b) (hd : 0 < d) (h : a * d = c * b) : lowN a b = lowN c d ∧ lowD a b = lowD c d := by
  have s1 := low_scale a b d hd
  have s2 := low_scale c d b hb
  rw [← s1.1, ← s1.2, ← s2.1, ← s2.2, h, Int.mul_comm b d]
  exact ⟨rfl, rfl⟩
theorem low_cross (a b : Int) : lowN a b * b = a * lowD a b := by
  have e1 := Int.ediv_mul_cancel (Int.gcd_dvd_left a b)
  have e2 := Int.ediv_mul_cancel (Int.gcd_dvd_right a b)
  unfold lowN lowD
  generalize a / (Int.gcd a b : Int) = u at *
  generalize b / (Int.gcd a b : Int) = v at *
  generalize (Int.gcd a b : Int) = g at *
  have : u * (v * g) = u * g * v := by rw [Int.mul_assoc, Int.mul_comm v g]
  rw [e1, e2] at this
  exact this
theorem low_nonneg {a b : Int} (ha : 0 ≤ a) (hb : 0 < b) : 0 ≤ lowN a b ∧ lowN a b ≤ a := by
  unfold lowN
  exact ⟨Int.ediv_nonneg ha (by omega), Int.ediv_le_self _ ha⟩
theorem tm_yes (i : Nat) (e : i % 2 = 0) : Int.tmod (i : Int) 2 = 0 := by
  rw [Int.tmod_eq_emod_of_nonneg (Int.natCast_nonneg i)]
  omega
theorem tm_no (i : Nat) (e : ¬ i % 2 = 0) : ¬ Int.tmod (i : Int) 2 = 0 := by
  rw [Int.tmod_eq_emod_of_nonneg (Int.natCast_nonneg i)]
  omega
theorem par_up (i : Nat) (e : i % 2 = 0) : ¬ (i + 1) % 2 = 0 := by omega
theorem par_down (i : Nat) (e : ¬ i % 2 = 0) : (i + 1) % 2 = 0 := by omega
def stAt (a l r d : Int) (k : Nat) : S60 := ⟨apT a l r d k, apP a l r d k, apA a l r d k, d * apQ a l r d k, apO l r d k⟩
theorem step_wraps {T P A Q O b s d : Int} (hT : 0 ≤ T ∧ T ≤ 163840000000000) (hP : 0 ≤ P ∧ P ≤ 163840000000000) (hA : 0 ≤ A ∧ A ≤ 163840000000000) (hQ : 0 ≤ Q ∧ Q ≤ 163840000000000)
    (hO : 0 ≤ O ∧ O ≤ 163840000000) (hb : 0 ≤ b ∧ b ≤ 40) (hs : 0 ≤ s ∧ s ≤ 20) (hd : 0 ≤ d ∧ d ≤ 20) :
    wrap64 (T * b) = T * b ∧ wrap64 (T * b + A) = T * b + A ∧ wrap64 (P * b) = P * b ∧ wrap64 (d * A) = d * A ∧ wrap64 (P * b + d * A) = P * b + d * A ∧ wrap64 (-d * A) = -d * A ∧ wrap64 (P * b + -d * A) = P * b + -d * A ∧
    wrap64 (A * s) = A * s ∧ wrap64 (d * Q * b) = d * Q * b ∧ wrap64 (d * Q * b + d * A) = d * Q * b + d * A ∧ wrap64 (d * Q * b + 0 * A) = d * Q * b + 0 * A ∧ wrap64 (O * b) = O * b ∧ wrap64 (0 * A) = 0 * A := by
  have pb := bm hP hb
  have da := bm hd hA
  have dq := bm (bm hd hQ) hb
  have en : -d * A = -(d * A) := Int.neg_mul _ _
  refine ⟨w64b (bm hT hb) (by decide), w64b (ad (bm hT hb) hA) (by decide), w64b pb (by decide), w64b da (by decide), w64b (ad pb da) (by decide), ?_, ?_, w64b (bm hA hs) (by decide), w64b dq (by decide), w64b (ad dq da) (by decide), ?_, w64b (bm hO hb) (by decide), ?_⟩
  · rw [en]
    exact w64 ⟨by omega, by omega⟩
  · rw [en]
    exact w64 ⟨by omega, by omega⟩
  · rw [Int.zero_mul, Int.add_zero]
    exact w64b dq (by decide)
  · rw [Int.zero_mul]
    exact w64 ⟨by decide, by decide⟩
theorem st_ranges {a l r d : Int} (h : isCh a l r d) (i : Nat) (hi : i ≤ 7) : (0 ≤ apT a l r d i ∧ apT a l r d i ≤ 163840000000000) ∧ (0 ≤ apP a l r d i ∧ apP a l r d i ≤ 163840000000000) ∧ (0 ≤ apA a l r d i ∧ apA a l r d i ≤ 163840000000000) ∧
    (0 ≤ apQ a l r d i ∧ apQ a l r d i ≤ 163840000000000) ∧ (0 ≤ apO l r d i ∧ apO l r d i ≤ 163840000000) := by
  have o1 := apO_pos h i
  have o2 := apO_le7 h i hi
  have t1 := apT_nonneg h i
  have t2 := apT_le h i
  have p1 := apP_range h i
  have q1 := apQ_range h i
  have a1 := apA_pos h i
  have a2 := apA_le h i
  generalize apT a l r d i = T at *
  generalize apP a l r d i = P at *
  generalize apA a l r d i = A at *
  generalize apQ a l r d i = Q at *
  generalize apO l r d i = O at *
  clear h
  refine ⟨⟨?_, ?_⟩, ⟨?_, ?_⟩, ⟨?_, ?_⟩, ⟨?_, ?_⟩, ⟨?_, ?_⟩⟩ <;> omega
theorem spec_doRun_l0 (a l r d : Int) (h : isCh a l r d) (n : Nat) (hn : n ≤ 7) (q : Nat) : ∀ (k i : Nat), i + q = n → q < k →
    spec_doRun.l0 k (n : Int) ((List.range (i + 1)).map (stAt a l r d)) ((i + 1 : Nat) : Int) a l r d (apT a l r d i) (apP a l r d i) (apA a l r d i) (d * apQ a l r d i) (apO l r d i) = some ((List.range (n + 1)).map (stAt a l r d)) := by
  have g := h
  unfold isCh at g
  have hd : 0 ≤ d ∧ d ≤ 20 := by omega
  have w1 : wrap64 (d + r) = d + r := w64 (by omega)
  have w2 : wrap64 (d + r - l) = d + r - l := w64 (by omega)
  have w3 : wrap64 (d + r - l - r) = d + r - l - r := w64 (by omega)
  have w4 : wrap64 (d + l) = d + l := w64 (by omega)
  have w5 : wrap64 (d + l - l) = d + l - l := w64 (by omega)
  have w6 : wrap64 (d + l - l - r) = d + l - l - r := w64 (by omega)
  have w7 : wrap64 (-d) = -d := w64 (by omega)
  have z0 : (if (0 : Int) > d then (0 : Int) else d) = d := if_neg (by omega)
  have z1 : (if (0 : Int) > -d then (0 : Int) else -d) = 0 := if_pos (by omega)
  have r1 : 0 ≤ d + r ∧ d + r ≤ 40 := by omega
  have r2 : 0 ≤ d + l ∧ d + l ≤ 40 := by omega
  have r3 : 0 ≤ d + r - l - r ∧ d + r - l - r ≤ 20 := by omega
  have r4 : 0 ≤ d + l - l - r ∧ d + l - l - r ≤ 20 := by omega
  clear g
  induction q with
  | zero =>
    intro k i hi hk
    obtain ⟨k, rfl⟩ : ∃ m, k = m + 1 := ⟨k - 1, by omega⟩
    obtain rfl : i = n := by omega
    simp only [spec_doRun.l0]
    rw [if_neg (by omega)]
  | succ q ih =>
    intro k i hi hk
    obtain ⟨k, rfl⟩ : ∃ m, k = m + 1 := ⟨k - 1, by omega⟩
    have next := ih k (i + 1) (by omega) (by omega)
    obtain ⟨hT, hP, hA, hQ, hO⟩ := st_ranges h i (by omega)
    have hlen : ((List.range (i + 1)).map (stAt a l r d)).length < 3518437208883 := by
      simp only [List.length_map, List.length_range]
      omega
    have hx : wrap64 (((i + 1 : Nat) : Int) + 1) = ((i + 1 + 1 : Nat) : Int) := by
      rw [w64 (by omega)]
      rfl
    have hle : ((i + 1 : Nat) : Int) ≤ (n : Int) := by omega
    have hcons : (List.range (i + 1)).map (stAt a l r d) ++ [stAt a l r d (i + 1)] = (List.range (i + 1 + 1)).map (stAt a l r d) := by
      rw [List.range_succ (n := i + 1), List.map_append]
      rfl
    rw [← hcons] at next
    simp only [spec_doRun.l0]
    rw [if_pos hle, hx]
    by_cases e : i % 2 = 0
    · have eb : both l r d i = d + r := by unfold both; rw [if_pos e]
      have tm := tm_no (i + 1) (par_up i e)
      obtain ⟨x1, x2, x3, x4, x5, x6, x7, x8, x9, x10, x11, x12, x13⟩ := step_wraps hT hP hA hQ hO r1 r3 hd
      have eT : apT a l r d (i + 1) = apT a l r d i * (d + r) + apA a l r d i := by rw [← eb]; rfl
      have eP : apP a l r d (i + 1) = apP a l r d i * (d + r) + d * apA a l r d i := by
        rw [← eb]
        show _ + (if i % 2 = 0 then d else -d) * _ = _
        rw [if_pos e]
      have eA : apA a l r d (i + 1) = apA a l r d i * (d + r - l - r) := by rw [← eb]; rfl
      have eO : apO l r d (i + 1) = apO l r d i * (d + r) := by rw [← eb]; rfl
      have eR : d * apQ a l r d (i + 1) = d * apQ a l r d i * (d + r) + d * apA a l r d i := by
        rw [← eb]
        show d * (_ + (if i % 2 = 0 then apA a l r d i else 0)) = _
        rw [if_pos e, Int.mul_add, Int.mul_assoc]
      rw [if_neg tm, spec_l1Most_eq]
      simp only [Option.bind_some]
      rw [if_pos hlen, z0, w1, w2, w3, x1, x3, x4, x9, x2, x5, x8, x10, x12, ← eT, ← eP, ← eA, ← eO, ← eR]
      exact next
    · have eb : both l r d i = d + l := by unfold both; rw [if_neg e]
      have tm := tm_yes (i + 1) (par_down i e)
      obtain ⟨x1, x2, x3, x4, x5, x6, x7, x8, x9, x10, x11, x12, x13⟩ := step_wraps hT hP hA hQ hO r2 r4 hd
      have eT : apT a l r d (i + 1) = apT a l r d i * (d + l) + apA a l r d i := by rw [← eb]; rfl
      have eP : apP a l r d (i + 1) = apP a l r d i * (d + l) + -d * apA a l r d i := by
        rw [← eb]
        show _ + (if i % 2 = 0 then d else -d) * _ = _
        rw [if_neg e]
      have eA : apA a l r d (i + 1) = apA a l r d i * (d + l - l - r) := by rw [← eb]; rfl
      have eO : apO l r d (i + 1) = apO l r d i * (d + l) := by rw [← eb]; rfl
      have eR : d * apQ a l r d (i + 1) = d * apQ a l r d i * (d + l) + 0 * apA a l r d i := by
        rw [← eb]
        show d * (_ + (if i % 2 = 0 then apA a l r d i else 0)) = _
        rw [if_neg e, Int.mul_add, Int.mul_assoc, Int.mul_zero, Int.zero_mul]
      rw [if_pos tm, w7, spec_l1Most_eq]
      simp only [Option.bind_some]
      rw [if_pos hlen, z1, w4, w5, w6, x1, x3, x6, x9, x13, x2, x7, x8, x11, x12, ← eT, ← eP, ← eA, ← eO, ← eR]
      exact next
theorem spec_doRun_eq (a l r d : Int) (h : isCh a l r d) (n : Nat) (hn : n ≤ 7) (k : Nat) (hk : 10 < k) : spec_doRun.f k a l r d (n : Int) = some ((List.range (n + 1)).map (stAt a l r d)) := by
  have := spec_doRun_l0 a l r d h n hn n k 0 (by omega) (by omega)
  unfold spec_doRun.f
  simpa [apT, apP, apA, apQ, apO, stAt] using this
theorem rd_st (a l r d : Int) (n i : Nat) (h : i ≤ n) : rd_T60 ((List.range (n + 1)).map (stAt a l r d)) (i : Int) = stAt a l r d i := by
  have : i < n + 1 := by omega
  simp [rd_T60, this]

theorem spec_l1Abs_eq (a : Int) (h : -9223372036854775807 ≤ a ∧ a ≤ 9223372036854775807) : spec_l1Abs.f a = some (Int.natAbs a : Int) := by
  unfold spec_l1Abs.f
  rw [w64 (by omega), spec_l1Most_eq]
  simp only [Option.bind_some, Option.some.injEq]
  split <;> omega

theorem spec_meLow_l0 (a0 b0 : Int) (h0 : 0 < b0) (ha0 : -9223372036854775807 ≤ a0 ∧ a0 ≤ 9223372036854775807) (hb0 : b0 ≤ 9223372036854775807) (n : Nat) :
    ∀ (k : Nat) (a b : Int), 0 ≤ a → 0 ≤ b → b ≤ n → n < k → Int.gcd a b = Int.gcd a0 b0 → spec_meLow.l0 k a0 b0 a b = some (lowN a0 b0, lowD a0 b0) := by
  have fin : ∀ (k : Nat) (a : Int), 0 ≤ a → Int.gcd a 0 = Int.gcd a0 b0 → spec_meLow.l0 (k + 1) a0 b0 a 0 = some (lowN a0 b0, lowD a0 b0) := by
    intro k a ha e
    have hg : a = (Int.gcd a0 b0 : Int) := by rw [Int.gcd_zero_right] at e; omega
    have gp := gpos (a := a0) h0
    have r1 := low_range (a := a0) h0 ha0
    have r2 := lowD_range (a := a0) h0
    simp only [spec_meLow.l0]
    rw [if_neg (by omega), if_neg (by omega), hg, tdiv_gcd_l, tdiv_gcd_r, w64 (by omega), w64 (by omega)]
  induction n with
  | zero =>
    intro k a b ha hb hn hk e
    obtain ⟨k, rfl⟩ : ∃ m, k = m + 1 := ⟨k - 1, by omega⟩
    obtain rfl : b = 0 := by omega
    exact fin k a ha e
  | succ n ih =>
    intro k a b ha hb hn hk e
    obtain ⟨k, rfl⟩ : ∃ m, k = m + 1 := ⟨k - 1, by omega⟩
    by_cases h : b > 0
    · simp only [spec_meLow.l0]
      rw [if_pos h, if_neg (by omega)]
      have h1 : 0 ≤ a.tmod b := Int.tmod_nonneg b ha
      have h2 : a.tmod b < b := Int.tmod_lt_of_pos a h
      exact ih k b (a.tmod b) hb h1 (by omega) (by omega) ((gcd_step a b ha hb).trans e)
    · obtain rfl : b = 0 := by omega
      exact fin k a ha e
theorem spec_meLow_eq (k : Nat) (a b : Int) (hb : 0 < b) (ha : -9223372036854775807 ≤ a ∧ a ≤ 9223372036854775807) (hbb : b ≤ 9223372036854775807) (hk : b + 1 < k) :
    spec_meLow.f k a b = some (lowN a b, lowD a b) := by
  obtain ⟨k, rfl⟩ : ∃ m, k = m + 1 := ⟨k - 1, by omega⟩
  unfold spec_meLow.f
  rw [if_neg (by omega)]
  simp only [spec_meLow.j0]
  rw [spec_l1Abs_eq a ha]
  simp only [Option.bind_some]
  exact spec_meLow_l0 a b hb ha hbb b.toNat k _ b (by omega) (by omega) (by omega) (by omega) (by rw [Int.gcd, Int.gcd, Int.natAbs_natCast])

def dogRow (a l r d : Int) (k : Nat) : List Int := [lowN (apT a l r d k) (apO l r d k), lowD (apT a l r d k) (apO l r d k), lowN (apP a l r d k) (apO l r d k), lowD (apP a l r d k) (apO l r d k)]
/-- the rows of the turns 1, 2, .. -/
def dogRows (a l r d : Int) (n : Nat) : List (List Int) := (List.range n).map fun j => dogRow a l r d (j + 1)
theorem dogRows_length (a l r d : Int) (n : Nat) : (dogRows a l r d n).length = n := by simp [dogRows]
theorem dogRows_succ (a l r d : Int) (n : Nat) : dogRows a l r d (n + 1) = dogRows a l r d n ++ [dogRow a l r d (n + 1)] := by
  unfold dogRows
  rw [List.range_succ, List.map_append]
  rfl
theorem spec_DogTurns_l (a l r d : Int) (h : isCh a l r d) (n : Nat) (hn : n ≤ 6) (k : Nat) (hk : (1000000000000 : Int) < k) (q : Nat) : ∀ i : Nat, i + q = n →
    spec_DogTurns.l k (((List.range (n + 1)).map (stAt a l r d)).drop 1) q (i : Int) (dogRows a l r d i) = some (dogRows a l r d n) := by
  induction q with
  | zero =>
    intro i hi
    obtain rfl : i = n := by omega
    rfl
  | succ q ih =>
    intro i hi
    have er : rd_T60 (((List.range (n + 1)).map (stAt a l r d)).drop 1) (i : Int) = stAt a l r d (i + 1) := by
      have h1 : i + 1 < n + 1 := by omega
      simp [rd_T60, h1, Nat.add_comm 1 i]
    obtain ⟨hT, hP, hA, hQ, hO⟩ := st_ranges h (i + 1) (by omega)
    have o1 := apO_pos h (i + 1)
    have m1 := spec_meLow_eq k (apT a l r d (i + 1)) (apO l r d (i + 1)) (by omega) ⟨by omega, by omega⟩ (by omega) (by omega)
    have m2 := spec_meLow_eq k (apP a l r d (i + 1)) (apO l r d (i + 1)) (by omega) ⟨by omega, by omega⟩ (by omega) (by omega)
    have next := ih (i + 1) (by omega)
    rw [dogRows_succ] at next
    simp only [spec_DogTurns.l, er]
    show ((spec_meLow.f k (apT a l r d (i + 1)) (apO l r d (i + 1))).bind fun p => (spec_meLow.f k (apP a l r d (i + 1)) (apO l r d (i + 1))).bind fun q_ => _) = _
    rw [m1]
    simp only [Option.bind_some]
    rw [m2]
    exact next
theorem spec_DogTurns_yes (a l r d : Int) (h : isCh a l r d) (n : Nat) (hn : 1 ≤ n ∧ n ≤ 6) (k : Nat) (hk : (1000000000000 : Int) < k) : spec_DogTurns.f k a l r d (n : Int) = some (dogRows a l r d n, true) := by
  have hn1 : 1 ≤ (n : Int) ∧ (n : Int) ≤ 6 := by omega
  simp only [spec_DogTurns.f, spec_doGood_yes a l r d h, spec_l1In_eq, Option.bind_some, decide_eq_true hn1, if_true]
  rw [spec_doRun_eq a l r d h n (by omega) k (by omega)]
  simp only [Option.bind_some]
  have hlen : ((List.range (n + 1)).map (stAt a l r d)).length = n + 1 := by simp
  rw [if_pos (by omega)]
  have := spec_DogTurns_l a l r d h n (by omega) k hk n 0 (by omega)
  have hl : (((List.range (n + 1)).map (stAt a l r d)).drop 1).length = n := by rw [List.length_drop, hlen]; omega
  rw [hl]
  rw [show spec_DogTurns.l k (((List.range (n + 1)).map (stAt a l r d)).drop 1) n 0 [] = some (dogRows a l r d n) from this]
  rfl
theorem spec_DogTurns_no (a l r d t : Int) (wd : -9223372036854775808 ≤ d ∧ d ≤ 9223372036854775807) (h : ¬ (isCh a l r d ∧ 1 ≤ t ∧ t ≤ 6)) (k : Nat) : spec_DogTurns.f k a l r d t = some ([], false) := by
  by_cases g : isCh a l r d
  · have ht : ¬ (1 ≤ t ∧ t ≤ 6) := fun z => h ⟨g, z⟩
    simp only [spec_DogTurns.f, spec_doGood_yes a l r d g, spec_l1In_eq, Option.bind_some, decide_eq_false ht, if_true, Bool.false_eq_true, if_false]
  · simp only [spec_DogTurns.f, spec_doGood_no a l r d wd g, Option.bind_some, Bool.false_eq_true, if_false]


/-- a list of bytes as a text -/
def tx (l : List UInt8) : ByteArray := ⟨l.toArray⟩
theorem tx_size (l : List UInt8) : (tx l).size = l.length := by simp [tx, ByteArray.size]
theorem tx_data (l : List UInt8) : (tx l).data.toList = l := by simp [tx]
theorem tx_append (a b : List UInt8) : tx a ++ tx b = tx (a ++ b) := by
  apply ByteArray.ext
  simp [tx, ByteArray.data_append]
theorem tx_of (s : ByteArray) : tx s.data.toList = s := by
  apply ByteArray.ext
  simp [tx]
theorem tx_inj {a b : List UInt8} (h : tx a = tx b) : a = b := by rw [← tx_data a, ← tx_data b, h]
theorem dec_len (n : Nat) : (Go.Lib.decDigits n).length ≤ n + 1 := by
  induction n using Nat.strongRecOn with
  | _ n ih =>
    rw [Go.Lib.decDigits]
    split
    · simp
    · have := ih (n / 10) (by omega)
      simp only [List.length_append, List.length_cons, List.length_nil]
      omega
theorem itoa_nat (n : Nat) : Go.Lib.itoa (n : Int) = Go.Lib.decDigits n := by
  unfold Go.Lib.itoa
  rw [if_neg (by omega), Int.toNat_natCast]
theorem itoa_len (x : Int) (h : 0 ≤ x) : ((Go.Lib.itoa x).length : Int) ≤ x + 1 := by
  obtain ⟨n, rfl⟩ := Int.eq_ofNat_of_zero_le h
  rw [itoa_nat]
  have := dec_len n
  omega
theorem digit_text (d : Nat) (h : d < 10) : strOfNums [wrap64 (48 + (d : Int)) % 256] = tx [UInt8.ofNat (48 + d)] := by
  rw [w64 (by omega), Int.emod_eq_of_lt (by omega) (by omega)]
  have : (48 + (d : Int)).toNat = 48 + d := by omega
  unfold strOfNums tx
  rw [List.map_cons, List.map_nil, this]
theorem spec_l1Num_nat (n : Nat) : ∀ k : Nat, n ≤ 1000000 → n < k → spec_l1Num.f k (n : Int) = some (tx (Go.Lib.decDigits n)) := by
  induction n using Nat.strongRecOn with
  | _ n ih =>
    intro k hn hk
    obtain ⟨k, rfl⟩ : ∃ m, k = m + 1 := ⟨k - 1, by omega⟩
    rw [Go.Lib.decDigits]
    simp only [spec_l1Num.f]
    by_cases h : n < 10
    · rw [if_pos (by omega), dif_pos h, digit_text n h]
    · have e1 : wrap64 (Int.tdiv (n : Int) 10) = ((n / 10 : Nat) : Int) := by
        rw [Int.tdiv_eq_ediv_of_nonneg (by omega), w64 (by omega)]
        rfl
      have e2 : Int.tmod (n : Int) 10 = ((n % 10 : Nat) : Int) := by
        rw [Int.tmod_eq_emod_of_nonneg (by omega)]
        rfl
      have hl := dec_len (n / 10)
      rw [if_neg (by omega), dif_neg h, e1, ih (n / 10) (by omega) k (by omega) (by omega), e2]
      simp only [Option.bind_some]
      rw [digit_text (n % 10) (by omega), if_pos (by rw [tx_size, tx_size]; simp only [List.length_cons, List.length_nil]; omega), tx_append]
theorem spec_l1Num_eq (x : Int) (h : 0 ≤ x ∧ x ≤ 1000000) (k : Nat) (hk : 1000000 < k) : spec_l1Num.f k x = some (tx (Go.Lib.itoa x)) := by
  obtain ⟨n, rfl⟩ := Int.eq_ofNat_of_zero_le h.1
  rw [itoa_nat]
  exact spec_l1Num_nat n k (by omega) (by omega)

theorem lit_tx (b : UInt8) : (⟨#[b]⟩ : ByteArray) = tx [b] := rfl
theorem spec_doText_eq (a l r d : Int) (h : isCh a l r d) (k : Nat) (hk : 1000000 < k) : spec_doText.f k a l r d = some (tx (Go.Lib.itoa a ++ [45] ++ Go.Lib.itoa l ++ [45] ++ Go.Lib.itoa r ++ [45] ++ Go.Lib.itoa d)) := by
  unfold isCh at h
  have l1 := itoa_len a (by omega)
  have l2 := itoa_len l (by omega)
  have l3 := itoa_len r (by omega)
  have l4 := itoa_len d (by omega)
  unfold spec_doText.f
  rw [spec_l1Num_eq a (by omega) k hk, spec_l1Num_eq l (by omega) k hk, spec_l1Num_eq r (by omega) k hk, spec_l1Num_eq d (by omega) k hk]
  simp only [Option.bind_some, lit_tx, tx_append, tx_size, List.length_append, List.length_cons, List.length_nil]
  rw [if_pos (by omega), if_pos (by omega), if_pos (by omega), if_pos (by omega), if_pos (by omega), if_pos (by omega)]

def chaseTx (a l r d : Int) : ByteArray := tx (Go.Lib.itoa a ++ [45] ++ Go.Lib.itoa l ++ [45] ++ Go.Lib.itoa r ++ [45] ++ Go.Lib.itoa d)
theorem spec_ChaseText_yes (a l r d : Int) (h : isCh a l r d) (k : Nat) (hk : 1000000 < k) : spec_ChaseText.f k a l r d = some (chaseTx a l r d, true) := by
  unfold spec_ChaseText.f
  rw [spec_doGood_yes a l r d h]
  simp only [Option.bind_some, if_true]
  rw [spec_doText_eq a l r d h k hk]
  rfl
theorem spec_ChaseText_no (a l r d : Int) (wd : -9223372036854775808 ≤ d ∧ d ≤ 9223372036854775807) (h : ¬ isCh a l r d) (k : Nat) : spec_ChaseText.f k a l r d = some (tx [], false) := by
  unfold spec_ChaseText.f
  rw [spec_doGood_no a l r d wd h]
  rfl

theorem impl_within_eq (a b c : Int) : impl_within.f a b c = some (decide (b ≤ a ∧ a ≤ c)) := by
  unfold impl_within.f
  by_cases h : b ≤ a <;> simp [h]

theorem impl_IsChase_no (a l r d : Int) (h : ¬ isCh a l r d) : impl_IsChase.f a l r d = some false := by
  unfold isCh at h
  simp only [impl_IsChase.f, impl_within_eq, Option.bind_some]
  by_cases h1 : 1 ≤ a ∧ a ≤ 1000
  · by_cases h2 : 0 ≤ l ∧ l ≤ 20
    · by_cases h3 : 0 ≤ r ∧ r ≤ 20
      · simp only [h1, h2, h3, and_self, decide_true, if_true]
        rw [w64 (by omega)]
        by_cases h4 : l + r > 0
        · rw [if_pos h4]
          by_cases h5 : d > mx l r
          · rw [if_pos h5]
            unfold mx at h5
            simp only [Option.some.injEq, decide_eq_false_iff_not]
            split at h5 <;> omega
          · rw [if_neg h5]
        · rw [if_neg h4]
      · simp [h1, h2, h3]
    · simp [h1, h2]
  · simp [h1]
theorem impl_IsChase_yes (a l r d : Int) (h : isCh a l r d) : impl_IsChase.f a l r d = some true := by
  unfold isCh at h
  obtain ⟨h1, h2, h3, h4, h5, h6, h7⟩ := h
  simp only [impl_IsChase.f, impl_within_eq, Option.bind_some, h1, h2, h3, and_self, decide_true, if_true]
  rw [w64 (by omega), if_pos (show l + r > 0 by omega), if_pos (show d > mx l r by unfold mx; split <;> omega)]
  simp [h7]

theorem impl_isTurn_eq (a : Int) : impl_isTurn.f a = some (decide (1 ≤ a ∧ a ≤ 6)) := by
  simp only [impl_isTurn.f, impl_within_eq, Option.bind_some]

theorem impl_divisorOf_l0 (n : Nat) : ∀ (k : Nat) (a b : Int), 0 ≤ a → 0 ≤ b → b ≤ n → n < k → impl_divisorOf.l0 k a b = some (Int.gcd a b : Int) := by
  induction n with
  | zero =>
    intro k a b ha hb hn hk
    obtain ⟨k, rfl⟩ : ∃ m, k = m + 1 := ⟨k - 1, by omega⟩
    obtain rfl : b = 0 := by omega
    simp only [impl_divisorOf.l0]
    rw [if_neg (by omega), Int.gcd_zero_right]
    congr 1
    omega
  | succ n ih =>
    intro k a b ha hb hn hk
    obtain ⟨k, rfl⟩ : ∃ m, k = m + 1 := ⟨k - 1, by omega⟩
    simp only [impl_divisorOf.l0]
    by_cases h : b > 0
    · rw [if_pos h, if_neg (by omega)]
      have h1 : 0 ≤ a.tmod b := Int.tmod_nonneg b ha
      have h2 : a.tmod b < b := Int.tmod_lt_of_pos a h
      rw [ih k b (a.tmod b) hb h1 (by omega) (by omega), gcd_step a b ha hb]
    · obtain rfl : b = 0 := by omega
      rw [if_neg h, Int.gcd_zero_right]
      congr 1
      omega
theorem impl_divisorOf_eq (k : Nat) (a b : Int) (ha : 0 ≤ a) (hb : 0 ≤ b) (hk : b < k) : impl_divisorOf.f k a b = some (Int.gcd a b : Int) := by
  unfold impl_divisorOf.f
  exact impl_divisorOf_l0 b.toNat k a b ha hb (by omega) (by omega)

theorem impl_absOf_eq (a : Int) (h : -9223372036854775807 ≤ a ∧ a ≤ 9223372036854775807) : impl_absOf.f a = some (Int.natAbs a : Int) := by
  unfold impl_absOf.f mx
  rw [w64 (by omega)]
  simp only [Option.some.injEq]
  split <;> omega

theorem impl_lowest_eq (k : Nat) (a b : Int) (hb : 0 < b) (ha : -9223372036854775807 ≤ a ∧ a ≤ 9223372036854775807) (hbb : b ≤ 9223372036854775807) (hk : -(k : Int) < a ∧ a < k) :
    impl_lowest.f k a b = some (lowN a b, lowD a b) := by
  unfold impl_lowest.f
  rw [if_neg (by omega), impl_absOf_eq a ha]
  simp only [Option.bind_some]
  rw [impl_divisorOf_eq k b _ (by omega) (by omega) (by omega)]
  have e : Int.gcd b (a.natAbs : Int) = Int.gcd a b := by
    rw [Int.gcd_comm, Int.gcd, Int.gcd, Int.natAbs_natCast]
  have gp := gpos (a := a) hb
  have r1 := low_range (a := a) hb ha
  have r2 := lowD_range (a := a) hb
  simp only [Option.bind_some, e]
  rw [if_neg (by omega), tdiv_gcd_l, tdiv_gcd_r, w64 (by omega), w64 (by omega)]

theorem impl_apartAt_l0 (a l r d : Int) (h : isCh a l r d) (n : Nat) (hn : n ≤ 7) (q : Nat) : ∀ (k i : Nat), i + q = n → q < k →
    impl_apartAt.l0 k (apA a l r d i) (apO l r d i) (n : Int) (i : Int) a l r d = some (apA a l r d n, apO l r d n) := by
  have g := h
  unfold isCh at g
  have w1 : wrap64 (d + r) = d + r := w64 (by omega)
  have w2 : wrap64 (d - l) = d - l := w64 (by omega)
  have w4 : wrap64 (d + l) = d + l := w64 (by omega)
  have w5 : wrap64 (d - r) = d - r := w64 (by omega)
  have r1 : 0 ≤ d + r ∧ d + r ≤ 40 := by omega
  have r2 : 0 ≤ d + l ∧ d + l ≤ 40 := by omega
  have r3 : 0 ≤ d - l ∧ d - l ≤ 20 := by omega
  have r4 : 0 ≤ d - r ∧ d - r ≤ 20 := by omega
  have ez1 : d + r - l - r = d - l := by omega
  have ez2 : d + l - l - r = d - r := by omega
  clear g
  induction q with
  | zero =>
    intro k i hi hk
    obtain ⟨k, rfl⟩ : ∃ m, k = m + 1 := ⟨k - 1, by omega⟩
    obtain rfl : i = n := by omega
    simp only [impl_apartAt.l0]
    rw [if_neg (by omega)]
  | succ q ih =>
    intro k i hi hk
    obtain ⟨k, rfl⟩ : ∃ m, k = m + 1 := ⟨k - 1, by omega⟩
    have next := ih k (i + 1) (by omega) (by omega)
    have o1 := apO_pos h i
    have o2 := apO_le7 h i (by omega)
    have a1 := apA_pos h i
    have a2 := apA_le h i
    have hO : 0 ≤ apO l r d i ∧ apO l r d i ≤ 163840000000 := ⟨Int.le_trans (by decide) o1, o2⟩
    have hA : 0 ≤ apA a l r d i ∧ apA a l r d i ≤ 163840000000000 := ⟨Int.le_trans (by decide) a1, Int.le_trans a2 (Int.mul_le_mul_of_nonneg_left o2 (by decide))⟩
    have hx : wrap64 ((i : Int) + 1) = ((i + 1 : Nat) : Int) := by
      rw [w64 (by omega)]
      rfl
    have hlt : (i : Int) < (n : Int) := by omega
    simp only [impl_apartAt.l0]
    rw [if_pos hlt, hx]
    by_cases e : i % 2 = 0
    · have eb : both l r d i = d + r := by unfold both; rw [if_pos e]
      have tm := tm_yes i e
      have eA : apA a l r d (i + 1) = apA a l r d i * (d - l) := by rw [← ez1, ← eb]; rfl
      have eO : apO l r d (i + 1) = apO l r d i * (d + r) := by rw [← eb]; rfl
      have x1 : wrap64 (apA a l r d i * (d - l)) = apA a l r d i * (d - l) := w64b (bm hA r3) (by decide)
      have x2 : wrap64 (apO l r d i * (d + r)) = apO l r d i * (d + r) := w64b (bm hO r1) (by decide)
      rw [if_pos tm, w1, w2, x1, x2, ← eA, ← eO]
      exact next
    · have eb : both l r d i = d + l := by unfold both; rw [if_neg e]
      have tm := tm_no i e
      have eA : apA a l r d (i + 1) = apA a l r d i * (d - r) := by rw [← ez2, ← eb]; rfl
      have eO : apO l r d (i + 1) = apO l r d i * (d + l) := by rw [← eb]; rfl
      have x1 : wrap64 (apA a l r d i * (d - r)) = apA a l r d i * (d - r) := w64b (bm hA r4) (by decide)
      have x2 : wrap64 (apO l r d i * (d + l)) = apO l r d i * (d + l) := w64b (bm hO r2) (by decide)
      rw [if_neg tm, w4, w5, x1, x2, ← eA, ← eO]
      exact next
theorem impl_apartAt_eq (a l r d : Int) (h : isCh a l r d) (n : Nat) (hn : n ≤ 7) (k : Nat) (hk : 10 < k) : impl_apartAt.f k a l r d (n : Int) = some (apA a l r d n, apO l r d n) := by
  have := impl_apartAt_l0 a l r d h n hn n k 0 (by omega) (by omega)
  unfold impl_apartAt.f
  simpa [apA, apO] using this

theorem impl_turnTime_eq (a l r d : Int) (h : isCh a l r d) (n : Nat) (hn : n ≤ 7) (k : Nat) (hk : (1000000000000000000 : Int) < k) : impl_turnTime.f k a l r d (n : Int) = some (lowN (apT a l r d n) (apO l r d n), lowD (apT a l r d n) (apO l r d n)) := by
  have inv := apT_inv (a := a) (l := l) (r := r) (d := d) n
  obtain ⟨hT, hP, hA, hQ, hO⟩ := st_ranges h n hn
  have o1 := apO_pos h n
  have g := h
  unfold isCh at g
  have sc := low_scale (apT a l r d n) (apO l r d n) (l + r) (by omega)
  unfold impl_turnTime.f
  rw [impl_apartAt_eq a l r d h n hn k (by omega)]
  simp only [Option.bind_some]
  have p1 := bm (A := 1000) (B := 163840000000) (a := a) (b := apO l r d n) (by omega) hO
  have p2 := bm (A := 163840000000) (B := 40) (a := apO l r d n) (b := l + r) hO (by omega)
  have p3 : 0 < apO l r d n * (l + r) := Int.mul_pos (by omega) (by omega)
  have e1 : a * apO l r d n - apA a l r d n = apT a l r d n * (l + r) := by
    rw [← inv, Int.mul_comm (l + r)]
    omega
  have p4 : -163840000000000 ≤ apT a l r d n * (l + r) ∧ apT a l r d n * (l + r) ≤ 163840000000000 := by omega
  rw [w64 (x := a * apO l r d n) ⟨by omega, by omega⟩, e1, w64 (x := l + r) ⟨by omega, by omega⟩, w64 (x := apT a l r d n * (l + r)) ⟨by omega, by omega⟩, w64 (x := apO l r d n * (l + r)) ⟨by omega, by omega⟩,
    impl_lowest_eq _ _ _ p3 ⟨by omega, by omega⟩ (by omega) ⟨by omega, by omega⟩, sc.1, sc.2]
  rfl

/-- the dog's place at a turn, out of the turn's time in lowest terms -/
theorem dog_place_low (a l r d : Int) (h : isCh a l r d) (i : Nat) (hi : i ≤ 5) (e : i % 2 = 0) :
    lowN (a * lowD (apT a l r d (i + 1)) (apO l r d (i + 1)) - r * lowN (apT a l r d (i + 1)) (apO l r d (i + 1))) (lowD (apT a l r d (i + 1)) (apO l r d (i + 1))) = lowN (apP a l r d (i + 1)) (apO l r d (i + 1)) ∧
    lowD (a * lowD (apT a l r d (i + 1)) (apO l r d (i + 1)) - r * lowN (apT a l r d (i + 1)) (apO l r d (i + 1))) (lowD (apT a l r d (i + 1)) (apO l r d (i + 1))) = lowD (apP a l r d (i + 1)) (apO l r d (i + 1)) := by
  have o1 := apO_pos h (i + 1)
  have c2 := lowD_range (a := apT a l r d (i + 1)) (b := apO l r d (i + 1)) (by omega)
  have cc := low_cross (apT a l r d (i + 1)) (apO l r d (i + 1))
  have ep : apP a l r d (i + 1) = a * apO l r d (i + 1) - r * apT a l r d (i + 1) := by rw [apP_eq, if_neg (par_up i e)]
  refine low_eq (by omega) (by omega) ?_
  rw [ep]
  generalize apT a l r d (i + 1) = T at *
  generalize apO l r d (i + 1) = O at *
  generalize lowN T O = x at *
  generalize lowD T O = y at *
  have : r * x * O = r * T * y := by rw [Int.mul_assoc, cc, Int.mul_assoc]
  rw [Int.sub_mul, Int.sub_mul, this, Int.mul_right_comm]
theorem dog_place_low2 (a l r d : Int) (h : isCh a l r d) (i : Nat) (hi : i ≤ 5) (e : ¬ i % 2 = 0) :
    lowN (l * lowN (apT a l r d (i + 1)) (apO l r d (i + 1))) (lowD (apT a l r d (i + 1)) (apO l r d (i + 1))) = lowN (apP a l r d (i + 1)) (apO l r d (i + 1)) ∧
    lowD (l * lowN (apT a l r d (i + 1)) (apO l r d (i + 1))) (lowD (apT a l r d (i + 1)) (apO l r d (i + 1))) = lowD (apP a l r d (i + 1)) (apO l r d (i + 1)) := by
  have o1 := apO_pos h (i + 1)
  have c2 := lowD_range (a := apT a l r d (i + 1)) (b := apO l r d (i + 1)) (by omega)
  have cc := low_cross (apT a l r d (i + 1)) (apO l r d (i + 1))
  have ep : apP a l r d (i + 1) = l * apT a l r d (i + 1) := by rw [apP_eq, if_pos (par_down i e)]
  refine low_eq (by omega) (by omega) ?_
  rw [ep, Int.mul_assoc, cc, Int.mul_assoc]
theorem impl_DogTurns_l0 (a l r d : Int) (h : isCh a l r d) (n : Nat) (hn : n ≤ 6) (q : Nat) : ∀ (k i : Nat), i + q = n → (1000000000000000000 : Int) + q < k →
    impl_DogTurns.l0 k (dogRows a l r d i ++ List.replicate q []) (n : Int) (i : Int) a l r d = some (dogRows a l r d n, true) := by
  induction q with
  | zero =>
    intro k i hi hk
    obtain ⟨k, rfl⟩ : ∃ m, k = m + 1 := ⟨k - 1, by omega⟩
    obtain rfl : i = n := by omega
    simp only [impl_DogTurns.l0]
    rw [if_neg (by omega), List.replicate_zero, List.append_nil]
  | succ q ih =>
    intro k i hi hk
    obtain ⟨k, rfl⟩ : ∃ m, k = m + 1 := ⟨k - 1, by omega⟩
    have g := h
    unfold isCh at g
    have e1 : wrap64 ((i : Int) + 1) = ((i + 1 : Nat) : Int) := by rw [w64 (by omega)]; rfl
    have hset : (dogRows a l r d i ++ List.replicate (q + 1) []).set (i : Int).toNat (dogRow a l r d (i + 1)) = dogRows a l r d (i + 1) ++ List.replicate q [] := by
      rw [Int.toNat_natCast, List.set_append_right _ _ (by rw [dogRows_length]; exact Nat.le_refl _), dogRows_length, Nat.sub_self, dogRows_succ, List.append_assoc]
      rfl
    have hlen : ((dogRows a l r d i ++ List.replicate (q + 1) []).length : Int) = (n : Int) := by
      rw [List.length_append, dogRows_length, List.length_replicate]
      omega
    have next := ih k (i + 1) (by omega) (by omega)
    rw [← hset] at next
    obtain ⟨hT, hP, hA, hQ, hO⟩ := st_ranges h (i + 1) (by omega)
    have o1 := apO_pos h (i + 1)
    have c1 := low_nonneg (a := apT a l r d (i + 1)) (b := apO l r d (i + 1)) hT.1 (by omega)
    have c2 := lowD_range (a := apT a l r d (i + 1)) (b := apO l r d (i + 1)) (by omega)
    have cc := low_cross (apT a l r d (i + 1)) (apO l r d (i + 1))
    have same := low_eq (a := lowN (apT a l r d (i + 1)) (apO l r d (i + 1))) (b := lowD (apT a l r d (i + 1)) (apO l r d (i + 1))) (c := apT a l r d (i + 1)) (d := apO l r d (i + 1)) (by omega) (by omega) cc
    have m1 := impl_lowest_eq k (lowN (apT a l r d (i + 1)) (apO l r d (i + 1))) (lowD (apT a l r d (i + 1)) (apO l r d (i + 1))) (by omega) ⟨by omega, by omega⟩ (by omega) ⟨by omega, by omega⟩
    rw [same.1, same.2] at m1
    have p1 := bm (A := 1000) (B := 163840000000) (a := a) (b := lowD (apT a l r d (i + 1)) (apO l r d (i + 1))) (by omega) (by omega)
    have p2 := bm (A := 20) (B := 163840000000000) (a := r) (b := lowN (apT a l r d (i + 1)) (apO l r d (i + 1))) (by omega) (by omega)
    have p3 := bm (A := 20) (B := 163840000000000) (a := l) (b := lowN (apT a l r d (i + 1)) (apO l r d (i + 1))) (by omega) (by omega)
    simp only [impl_DogTurns.l0]
    rw [if_pos (by omega), e1, impl_turnTime_eq a l r d h (i + 1) (by omega) k (by omega)]
    simp only [Option.bind_some]
    by_cases e : i % 2 = 0
    · have s2 := dog_place_low a l r d h i (by omega) e
      rw [if_pos (tm_yes i e), m1]
      simp only [Option.bind_some]
      rw [w64 (x := a * lowD (apT a l r d (i + 1)) (apO l r d (i + 1))) ⟨by omega, by omega⟩, w64 (x := r * lowN (apT a l r d (i + 1)) (apO l r d (i + 1))) ⟨by omega, by omega⟩, w64 (x := a * lowD (apT a l r d (i + 1)) (apO l r d (i + 1)) - r * lowN (apT a l r d (i + 1)) (apO l r d (i + 1))) ⟨by omega, by omega⟩,
        impl_lowest_eq k _ _ (by omega) ⟨by omega, by omega⟩ (by omega) ⟨by omega, by omega⟩, s2.1, s2.2]
      simp only [Option.bind_some]
      rw [if_pos (by omega), if_pos (by omega)]
      exact next
    · have s2 := dog_place_low2 a l r d h i (by omega) e
      rw [if_neg (tm_no i e), m1]
      simp only [Option.bind_some]
      rw [w64 (x := l * lowN (apT a l r d (i + 1)) (apO l r d (i + 1))) ⟨by omega, by omega⟩, impl_lowest_eq k _ _ (by omega) ⟨by omega, by omega⟩ (by omega) ⟨by omega, by omega⟩, s2.1, s2.2]
      simp only [Option.bind_some]
      rw [if_pos (by omega), if_pos (by omega)]
      exact next
theorem impl_DogTurns_yes (a l r d : Int) (h : isCh a l r d) (n : Nat) (hn : 1 ≤ n ∧ n ≤ 6) (k : Nat) (hk : (1000000000000000010 : Int) < k) : impl_DogTurns.f k a l r d (n : Int) = some (dogRows a l r d n, true) := by
  obtain ⟨k, rfl⟩ : ∃ m, k = m + 1 := ⟨k - 1, by omega⟩
  have hn1 : 1 ≤ (n : Int) ∧ (n : Int) ≤ 6 := by omega
  simp only [impl_DogTurns.f, impl_IsChase_yes a l r d h, impl_isTurn_eq, Option.bind_some, decide_eq_true hn1, if_true, Bool.not_true, impl_DogTurns.j0, Bool.false_eq_true, if_false]
  rw [if_pos (by omega), if_pos (by omega), Int.toNat_natCast, List.length_replicate]
  have := impl_DogTurns_l0 a l r d h n (by omega) n k 0 (by omega) (by omega)
  simpa [dogRows] using this
theorem impl_DogTurns_no (a l r d t : Int) (h : ¬ (isCh a l r d ∧ 1 ≤ t ∧ t ≤ 6)) (k : Nat) (hk : 1 ≤ k) : impl_DogTurns.f k a l r d t = some ([], false) := by
  obtain ⟨k, rfl⟩ : ∃ m, k = m + 1 := ⟨k - 1, by omega⟩
  by_cases g : isCh a l r d
  · have ht : ¬ (1 ≤ t ∧ t ≤ 6) := fun z => h ⟨g, z⟩
    simp only [impl_DogTurns.f, impl_IsChase_yes a l r d g, impl_isTurn_eq, Option.bind_some, decide_eq_false ht, if_true, Bool.not_false, impl_DogTurns.j0]
  · simp only [impl_DogTurns.f, impl_IsChase_no a l r d g, Option.bind_some, Bool.false_eq_true, if_false, impl_DogTurns.j0, if_true]

theorem join_len (xs : List (List UInt8)) (sep : List UInt8) (M : Nat) (h : ∀ x ∈ xs, x.length ≤ M) : (Go.Lib.join xs sep).length ≤ xs.length * (M + sep.length) := by
  have tail : ∀ ys : List (List UInt8), (∀ x ∈ ys, x.length ≤ M) → (Go.Lib.joinTail sep ys).length ≤ ys.length * (M + sep.length) := by
    intro ys
    induction ys with
    | nil => intro _; simp [Go.Lib.joinTail]
    | cons y r ih =>
      intro hy
      have h1 := hy y List.mem_cons_self
      have h2 := ih (fun x hx => hy x (List.mem_cons_of_mem _ hx))
      unfold Go.Lib.joinTail at *
      rw [List.map_cons, List.flatten_cons, List.length_append, List.length_append, List.length_cons, Nat.succ_mul]
      omega
  cases xs with
  | nil => simp [Go.Lib.join_nil]
  | cons x r =>
    have h1 := h x List.mem_cons_self
    have h2 := tail r (fun y hy => h y (List.mem_cons_of_mem _ hy))
    rw [Go.Lib.join_cons, List.length_append, List.length_cons, Nat.succ_mul]
    omega
theorem strings_Join_eq (xs : List (List UInt8)) (sep : ByteArray) (h : (Go.Lib.join xs sep.data.toList).length ≤ 140737488355328) (hl : xs.length ≤ 140737488355328) : strings_Join.f (xs.map tx) sep = some (tx (Go.Lib.join xs sep.data.toList)) := by
  have e : (xs.map tx).map (·.data.toList) = xs := by
    rw [List.map_map]
    conv => rhs; rw [← List.map_id xs]
    exact List.map_congr_left fun x _ => tx_data x
  unfold strings_Join.f
  rw [e, if_pos ⟨h, by rw [List.length_map]; exact hl⟩]
  rfl
theorem joinNumbers_l0 (l : List Int) (sep : ByteArray) (hl : l.length ≤ 1000) (hb : ∀ x ∈ l, 0 ≤ x ∧ x ≤ 1000000) (hs : sep.size ≤ 1000) (q : Nat) : ∀ (k i : Nat), i + q = l.length → q < k →
    impl_joinNumbers.l0 k sep ((l.take i).map (fun x => tx (Go.Lib.itoa x)) ++ List.replicate q (tx [])) l (l.length : Int) (i : Int) = some (tx (Go.Lib.join (l.map Go.Lib.itoa) sep.data.toList)) := by
  induction q with
  | zero =>
    intro k i hi hk
    obtain ⟨k, rfl⟩ : ∃ m, k = m + 1 := ⟨k - 1, by omega⟩
    have e : ((l.take i).map (fun x => tx (Go.Lib.itoa x)) ++ List.replicate 0 (tx [])) = (l.map Go.Lib.itoa).map tx := by
      rw [List.replicate_zero, List.append_nil, List.take_of_length_le (by omega), List.map_map]
      rfl
    have hj := join_len (l.map Go.Lib.itoa) sep.data.toList 1000001 (by
      intro x hx
      obtain ⟨y, hy, rfl⟩ := List.mem_map.mp hx
      have h1 := hb y hy
      have h2 := itoa_len y h1.1
      omega)
    have hz : sep.data.toList.length = sep.size := by rw [Array.length_toList]; rfl
    rw [List.length_map, hz] at hj
    have hm : l.length * (1000001 + sep.size) ≤ 1000 * 1001001 := Nat.mul_le_mul hl (by omega)
    simp only [impl_joinNumbers.l0]
    rw [if_neg (by omega), e, strings_Join_eq (l.map Go.Lib.itoa) sep (by omega) (by rw [List.length_map]; omega)]
    rfl
  | succ q ih =>
    intro k i hi hk
    obtain ⟨k, rfl⟩ : ∃ m, k = m + 1 := ⟨k - 1, by omega⟩
    have hlt : i < l.length := by omega
    have e1 : wrap64 ((i : Int) + 1) = ((i + 1 : Nat) : Int) := by rw [w64 (by omega)]; rfl
    have er : rd l (i : Int) = l[i] := by simp [rd, hlt]
    have hx := hb l[i] (List.getElem_mem hlt)
    have eI : strconv_Itoa.f l[i] = some (tx (Go.Lib.itoa l[i])) := by
      unfold strconv_Itoa.f
      rw [if_pos (by omega)]
      rfl
    have hlen : ((l.take i).map (fun x => tx (Go.Lib.itoa x)) ++ List.replicate (q + 1) (tx [])).length = l.length := by
      rw [List.length_append, List.length_map, List.length_take, List.length_replicate]
      omega
    have es : ((l.take i).map (fun x => tx (Go.Lib.itoa x)) ++ List.replicate (q + 1) (tx [])).set (i : Int).toNat (tx (Go.Lib.itoa l[i])) = (l.take (i + 1)).map (fun x => tx (Go.Lib.itoa x)) ++ List.replicate q (tx []) := by
      have hi2 : ((l.take i).map (fun x => tx (Go.Lib.itoa x))).length = i := by rw [List.length_map, List.length_take]; omega
      rw [Int.toNat_natCast, List.set_append_right _ _ (by rw [hi2]; exact Nat.le_refl _), hi2, Nat.sub_self, List.replicate_succ, List.set_cons_zero, List.take_add_one, List.getElem?_eq_getElem hlt, List.map_append]
      simp
    have next := ih k (i + 1) (by omega) (by omega)
    rw [← es] at next
    simp only [impl_joinNumbers.l0]
    rw [if_pos (by omega), if_pos (by omega), if_pos (by omega), er, eI]
    simp only [Option.bind_some]
    rw [hlen, if_pos (by omega), e1]
    exact next
theorem impl_joinNumbers_eq (l : List Int) (sep : ByteArray) (hl : l.length ≤ 1000) (hb : ∀ x ∈ l, 0 ≤ x ∧ x ≤ 1000000) (hs : sep.size ≤ 1000) (k : Nat) (hk : 1000 < k) : impl_joinNumbers.f k l sep = some (tx (Go.Lib.join (l.map Go.Lib.itoa) sep.data.toList)) := by
  have := joinNumbers_l0 l sep hl hb hs l.length k 0 (by omega) (by omega)
  rw [List.take_zero, List.map_nil, List.nil_append] at this
  unfold impl_joinNumbers.f
  rw [if_pos (by omega), if_pos (by omega), Int.toNat_natCast]
  exact this

theorem chase_join (a l r d : Int) : Go.Lib.join ([a, l, r, d].map Go.Lib.itoa) (⟨#[45]⟩ : ByteArray).data.toList = Go.Lib.itoa a ++ [45] ++ Go.Lib.itoa l ++ [45] ++ Go.Lib.itoa r ++ [45] ++ Go.Lib.itoa d := by
  rw [List.map_cons, Go.Lib.join_cons]
  simp [Go.Lib.joinTail]
theorem impl_ChaseText_yes (a l r d : Int) (h : isCh a l r d) (k : Nat) (hk : 1000000 < k) : impl_ChaseText.f k a l r d = some (chaseTx a l r d, true) := by
  have g := h
  unfold isCh at g
  unfold impl_ChaseText.f
  rw [impl_IsChase_yes a l r d h]
  simp only [Option.bind_some, if_true]
  rw [impl_joinNumbers_eq [a, l, r, d] _ (by simp) (by
    intro x hx
    simp only [List.mem_cons, List.not_mem_nil, or_false] at hx
    rcases hx with rfl | rfl | rfl | rfl <;> omega) (by show 1 ≤ 1000; omega) k (by omega), chase_join]
  rfl
theorem impl_ChaseText_no (a l r d : Int) (h : ¬ isCh a l r d) (k : Nat) : impl_ChaseText.f k a l r d = some (tx [], false) := by
  unfold impl_ChaseText.f
  rw [impl_IsChase_no a l r d h]
  rfl

theorem hd_app (l r : List UInt8) (h : l ≠ []) : (l ++ r).head? = l.head? := by
  cases l with
  | nil => exact absurd rfl h
  | cons a l => rfl
theorem snoc_ind {P : List UInt8 → Prop} (h0 : P []) (h1 : ∀ l c, P l → P (l ++ [c])) : ∀ l, P l := by
  have key : ∀ l : List UInt8, P l.reverse := by
    intro l
    induction l with
    | nil => exact h0
    | cons c l ih =>
      rw [List.reverse_cons]
      exact h1 _ _ ih
  intro l
  have := key l.reverse
  rwa [List.reverse_reverse] at this
/-- a text cut at a byte -/
def sp (b : UInt8) : List UInt8 → List (List UInt8)
  | [] => [[]]
  | c :: r => if c = b then [] :: sp b r else match sp b r with
    | [] => [[c]]
    | x :: xs => (c :: x) :: xs
def spA (b : UInt8) (acc : List UInt8) : List UInt8 → List (List UInt8)
  | [] => [acc]
  | c :: r => if c = b then acc :: spA b [] r else spA b (acc ++ [c]) r
theorem sp_ne (b : UInt8) (l : List UInt8) : ∃ x xs, sp b l = x :: xs := by
  cases l with
  | nil => exact ⟨[], [], rfl⟩
  | cons c r =>
    unfold sp
    split
    · exact ⟨[], _, rfl⟩
    · cases sp b r with
      | nil => exact ⟨[c], [], rfl⟩
      | cons x xs => exact ⟨c :: x, xs, rfl⟩
theorem spA_eq (b : UInt8) (l : List UInt8) : ∀ acc x xs, sp b l = x :: xs → spA b acc l = (acc ++ x) :: xs := by
  induction l with
  | nil =>
    intro acc x xs h
    unfold sp at h
    obtain ⟨rfl, rfl⟩ := List.cons.inj h
    simp [spA]
  | cons c r ih =>
    intro acc x xs h
    obtain ⟨y, ys, hy⟩ := sp_ne b r
    unfold sp at h
    unfold spA
    by_cases z : c = b
    · rw [if_pos z] at h ⊢
      obtain ⟨rfl, rfl⟩ := List.cons.inj h
      rw [ih [] y ys hy, hy, List.append_nil, List.nil_append]
    · rw [if_neg z, hy] at h
      rw [if_neg z]
      obtain ⟨rfl, rfl⟩ := List.cons.inj h
      rw [ih (acc ++ [c]) y ys hy, List.append_assoc]
      rfl
theorem spA_nil (b : UInt8) (l : List UInt8) : spA b [] l = sp b l := by
  obtain ⟨x, xs, h⟩ := sp_ne b l
  rw [spA_eq b l [] x xs h, h, List.nil_append]
/-- the pieces, joined again, are the text -/
theorem join_sp (b : UInt8) (l : List UInt8) : Go.Lib.join (sp b l) [b] = l := by
  induction l with
  | nil => rfl
  | cons c r ih =>
    obtain ⟨x, xs, h⟩ := sp_ne b r
    unfold sp
    rw [h] at ih ⊢
    rw [Go.Lib.join_cons] at ih
    by_cases z : c = b
    · rw [if_pos z, Go.Lib.join_cons]
      unfold Go.Lib.joinTail at ih ⊢
      rw [List.map_cons, List.flatten_cons, z, List.nil_append]
      show [b] ++ x ++ _ = _
      rw [List.append_assoc, ih]
      rfl
    · rw [if_neg z]
      show Go.Lib.join ((c :: x) :: xs) [b] = _
      rw [Go.Lib.join_cons, List.cons_append, ih]
theorem sp_len (b : UInt8) (l : List UInt8) : (sp b l).length ≤ l.length + 1 := by
  induction l with
  | nil => exact Nat.le_refl _
  | cons c r ih =>
    obtain ⟨x, xs, h⟩ := sp_ne b r
    unfold sp
    rw [h] at ih ⊢
    split <;> simp only [List.length_cons] at * <;> omega
theorem sp_small (b : UInt8) (l : List UInt8) : ∀ x ∈ sp b l, x.length ≤ l.length := by
  induction l with
  | nil => intro x hx; simp [sp] at hx; subst hx; exact Nat.le_refl _
  | cons c r ih =>
    obtain ⟨y, ys, h⟩ := sp_ne b r
    intro x hx
    unfold sp at hx
    rw [h] at ih hx
    by_cases z : c = b
    · rw [if_pos z] at hx
      rcases List.mem_cons.mp hx with rfl | hx
      · simp
      · have := ih x hx
        simp only [List.length_cons]
        omega
    · rw [if_neg z] at hx
      rcases List.mem_cons.mp hx with rfl | hx
      · have := ih y List.mem_cons_self
        simp only [List.length_cons]
        omega
      · have := ih x (List.mem_cons_of_mem _ hx)
        simp only [List.length_cons]
        omega
theorem splitK_sp (b : UInt8) (l : List UInt8) : Go.Lib.splitK [b] 0 (Go.Lib.count l [b]) l = sp b l := by
  induction l with
  | nil =>
    rw [Go.Lib.count_miss (by simp [Go.Lib.index])]
    rfl
  | cons c r ih =>
    obtain ⟨x, xs, h⟩ := sp_ne b r
    by_cases z : c = b
    · subst z
      have hix : Go.Lib.index (c :: r) [c] = 0 := by rw [Go.Lib.index]; simp [List.isPrefixOf]
      rw [Go.Lib.count_cons_eq, Nat.add_comm 1]
      unfold Go.Lib.splitK sp
      rw [hix, if_pos rfl, ← ih]
      rfl
    · have hp : ([b] : List UInt8).isPrefixOf (c :: r) = false := by simp [List.isPrefixOf, Ne.symm z]
      have hix : Go.Lib.index (c :: r) [b] = if Go.Lib.index r [b] == -1 then -1 else Go.Lib.index r [b] + 1 := by rw [Go.Lib.index, hp]; simp
      rw [Go.Lib.count_cons_ne c b r z]
      unfold sp
      rw [if_neg z, ← ih]
      by_cases hm : Go.Lib.index r [b] = -1
      · rw [Go.Lib.count_miss hm]
        rfl
      · have hge := Go.Lib.index_ge r [b]
        obtain ⟨j, hj⟩ : ∃ j : Nat, Go.Lib.index r [b] = j := ⟨(Go.Lib.index r [b]).toNat, by omega⟩
        have hc : Go.Lib.count r [b] = 1 + Go.Lib.count (r.drop (j + 1)) [b] := by
          have := Go.Lib.count_hit (sub := [b]) (by simp) hj
          simpa using this
        rw [hc, Nat.add_comm 1]
        unfold Go.Lib.splitK
        rw [hix, hj]
        have e1 : ¬ (((j : Nat) : Int) == -1) = true := by intro e; have := beq_iff_eq.1 e; omega
        have e2 : ¬ ((((j : Nat) : Int) + 1) == -1) = true := by intro e; have := beq_iff_eq.1 e; omega
        rw [if_neg e1, if_neg e1, if_neg e2]
        have e3 : (((j : Nat) : Int) + 1).toNat = j + 1 := by omega
        rw [e3, Int.toNat_natCast]
        simp
/-- the value of digits -/
def val (l : List UInt8) : Nat := l.foldl (fun n c => 10 * n + (c.toNat - 48)) 0
def isDig (c : UInt8) : Bool := decide (48 ≤ c.toNat ∧ c.toNat ≤ 57)
/-- the number that a text of at most six digits tells, or -1 -/
def num (l : List UInt8) : Int := if (1 ≤ l.length ∧ l.length ≤ 6) ∧ ¬ (l.head? = some 48 ∧ 1 < l.length) ∧ l.all isDig = true then (val l : Int) else -1
theorem val_snoc (l : List UInt8) (c : UInt8) : val (l ++ [c]) = 10 * val l + (c.toNat - 48) := by
  unfold val
  rw [List.foldl_append]
  rfl
theorem dig_of (d : Nat) (h : d < 10) : (UInt8.ofNat (48 + d)).toNat = 48 + d := by
  rw [UInt8.toNat_ofNat']
  omega
theorem dec_val (n : Nat) : val (Go.Lib.decDigits n) = n ∧ (Go.Lib.decDigits n).all isDig = true := by
  induction n using Nat.strongRecOn with
  | _ n ih =>
    rw [Go.Lib.decDigits]
    split
    · rename_i h
      refine ⟨?_, ?_⟩
      · show 10 * 0 + ((UInt8.ofNat (48 + n)).toNat - 48) = n
        rw [dig_of n h]
        omega
      · simp [isDig, dig_of n h]
        omega
    · rename_i h
      obtain ⟨h1, h2⟩ := ih (n / 10) (by omega)
      refine ⟨?_, ?_⟩
      · rw [val_snoc, h1, dig_of (n % 10) (by omega)]
        omega
      · rw [List.all_append, h2]
        simp [isDig, dig_of (n % 10) (by omega)]
        omega
theorem dec_ne (n : Nat) : Go.Lib.decDigits n ≠ [] := by
  rw [Go.Lib.decDigits]
  split <;> simp
theorem dec_head (n : Nat) (hn : 1 ≤ n) : (Go.Lib.decDigits n).head? ≠ some 48 := by
  induction n using Nat.strongRecOn with
  | _ n ih =>
    rw [Go.Lib.decDigits]
    split
    · rename_i h
      intro e
      have e1 : UInt8.ofNat (48 + n) = 48 := Option.some.inj e
      have := congrArg UInt8.toNat e1
      rw [dig_of n h] at this
      have h48 : (48 : UInt8).toNat = 48 := rfl
      omega
    · rename_i h
      rw [hd_app _ _ (dec_ne _)]
      exact ih (n / 10) (by omega) (by omega)
theorem dec_len6 (n : Nat) : ∀ k : Nat, n < 10 ^ k → 1 ≤ k → (Go.Lib.decDigits n).length ≤ k := by
  induction n using Nat.strongRecOn with
  | _ n ih =>
    intro k hk h1
    rw [Go.Lib.decDigits]
    split
    · simp; omega
    · rename_i h
      obtain ⟨k, rfl⟩ : ∃ q, k = q + 1 := ⟨k - 1, by omega⟩
      rw [Nat.pow_succ] at hk
      have hk0 : 1 ≤ k := by
        rcases Nat.eq_zero_or_pos k with z | z
        · subst z; simp at hk; omega
        · exact z
      have := ih (n / 10) (by omega) k (by omega) hk0
      rw [List.length_append, List.length_singleton]
      omega
/-- a number below a million, in decimal, is read as itself -/
theorem num_dec (n : Nat) (hn : n < 1000000) : num (Go.Lib.decDigits n) = n := by
  obtain ⟨h1, h2⟩ := dec_val n
  have h3 := dec_len6 n 6 (by omega) (by omega)
  have h4 : 1 ≤ (Go.Lib.decDigits n).length := List.length_pos_iff.mpr (dec_ne n)
  have h5 : ¬ ((Go.Lib.decDigits n).head? = some 48 ∧ 1 < (Go.Lib.decDigits n).length) := by
    rintro ⟨e1, e2⟩
    rcases Nat.eq_zero_or_pos n with z | z
    · subst z
      rw [Go.Lib.decDigits_one (by omega)] at e2
      simp at e2
    · exact dec_head n z e1
  unfold num
  rw [if_pos ⟨⟨h4, h3⟩, h5, h2⟩, h1]
theorem val_le (l : List UInt8) : ∀ (hd : l.all isDig = true), val l + 1 ≤ 10 ^ l.length := by
  revert l
  refine snoc_ind ?_ ?_
  · intro _
    simp [val]
  · intro l c ih hd
    rw [List.all_append, Bool.and_eq_true] at hd
    have h1 := ih hd.1
    have h2 : 48 ≤ c.toNat ∧ c.toNat ≤ 57 := by simpa [isDig] using hd.2
    rw [val_snoc, List.length_append, List.length_singleton, Nat.pow_succ]
    omega
/-- digits without a superfluous zero are the decimal of their value -/
theorem dec_of_val (l : List UInt8) : l ≠ [] → l.all isDig = true → ¬ (l.head? = some 48 ∧ 1 < l.length) → Go.Lib.decDigits (val l) = l := by
  revert l
  refine snoc_ind ?_ ?_
  · intro h
    exact absurd rfl h
  · intro l c ih _ hd hz
    rw [List.all_append, Bool.and_eq_true] at hd
    have h2 : 48 ≤ c.toNat ∧ c.toNat ≤ 57 := by simpa [isDig] using hd.2
    have hc : UInt8.ofNat (48 + (c.toNat - 48)) = c := by
      rw [show 48 + (c.toNat - 48) = c.toNat by omega]
      exact UInt8.ofNat_toNat
    by_cases hne : l = []
    · subst hne
      rw [List.nil_append]
      have : val [c] = c.toNat - 48 := by show 10 * 0 + (c.toNat - 48) = _; omega
      rw [this, Go.Lib.decDigits_one (by omega), hc]
    · have hp := List.length_pos_iff.mpr hne
      have hh : l.head? = (l ++ [c]).head? := (hd_app _ _ hne).symm
      have ih2 := ih hne hd.1 (fun h => hz ⟨by rw [← hh]; exact h.1, by rw [List.length_append]; have := h.2; omega⟩)
      have hv : 1 ≤ val l := by
        rcases Nat.eq_zero_or_pos (val l) with z | z
        · rw [z, Go.Lib.decDigits_one (by omega)] at ih2
          exfalso
          refine hz ⟨?_, by rw [List.length_append, List.length_singleton]; omega⟩
          rw [← hh, ← ih2]
          rfl
        · exact z
      rw [val_snoc, Go.Lib.decDigits, dif_neg (by omega)]
      have e1 : (10 * val l + (c.toNat - 48)) / 10 = val l := by omega
      have e2 : (10 * val l + (c.toNat - 48)) % 10 = c.toNat - 48 := by omega
      rw [e1, e2, ih2, hc]
theorem num_yes (l : List UInt8) (h : 0 ≤ num l) : Go.Lib.itoa (num l) = l ∧ num l < 1000000 := by
  unfold num at h ⊢
  by_cases c : (1 ≤ l.length ∧ l.length ≤ 6) ∧ ¬ (l.head? = some 48 ∧ 1 < l.length) ∧ l.all isDig = true
  · rw [if_pos c]
    have h1 := val_le l c.2.2
    have h2 : (10 : Nat) ^ l.length ≤ 10 ^ 6 := Nat.pow_le_pow_right (by omega) c.1.2
    rw [itoa_nat]
    exact ⟨dec_of_val l (fun e => by rw [e] at c; simp at c) c.2.2 c.2.1, by omega⟩
  · rw [if_neg c] at h
    omega
theorem parse_dec (l : List UInt8) (hd : l.all isDig = true) : ∀ acc : Nat, (acc + 1) * 10 ^ l.length ≤ 1000000000000 → Go.Lib.parseUint10 acc l = .ok (l.foldl (fun n c => 10 * n + (c.toNat - 48)) acc) := by
  induction l with
  | nil => intro acc _; rfl
  | cons c r ih =>
    intro acc ha
    rw [List.all_cons, Bool.and_eq_true] at hd
    have h2 : 48 ≤ c.toNat ∧ c.toNat ≤ 57 := by simpa [isDig] using hd.1
    rw [List.length_cons, Nat.pow_succ] at ha
    have hp : 1 ≤ 10 ^ r.length := Nat.one_le_pow _ _ (by omega)
    have hm : (acc + 1) * 10 * 1 ≤ (acc + 1) * 10 * 10 ^ r.length := Nat.mul_le_mul_left _ hp
    have ha2 : (acc + 1) * 10 * 10 ^ r.length ≤ 1000000000000 := by rw [Nat.mul_assoc, Nat.mul_comm 10]; exact ha
    have hs : (acc * 10 + (c.toNat - 48) + 1) * 10 ^ r.length ≤ (acc + 1) * 10 * 10 ^ r.length := Nat.mul_le_mul_right _ (by omega)
    unfold Go.Lib.parseUint10
    rw [if_pos h2, if_neg (by omega), if_neg (by omega), ih hd.2 _ (by omega), List.foldl_cons, Nat.mul_comm acc 10]
theorem atoi_dec (n : Nat) (hn : n < 1000000) : Go.Lib.atoiAll (Go.Lib.decDigits n) = .ok (n : Int) := by
  obtain ⟨h1, h2⟩ := dec_val n
  have h3 := dec_len6 n 6 (by omega) (by omega)
  obtain ⟨c, r, hcr⟩ : ∃ c r, Go.Lib.decDigits n = c :: r := by
    cases h : Go.Lib.decDigits n with
    | nil => exact absurd h (dec_ne n)
    | cons c r => exact ⟨c, r, rfl⟩
  have hp := parse_dec (Go.Lib.decDigits n) h2 0 (by
    have : (10 : Nat) ^ (Go.Lib.decDigits n).length ≤ 10 ^ 6 := Nat.pow_le_pow_right (by omega) h3
    omega)
  have hv : Go.Lib.parseUint10 0 (Go.Lib.decDigits n) = .ok n := by rw [hp]; exact congrArg _ h1
  rw [hcr] at hv h2 ⊢
  rw [List.all_cons, Bool.and_eq_true] at h2
  have hc : 48 ≤ c.toNat ∧ c.toNat ≤ 57 := by simpa [isDig] using h2.1
  unfold Go.Lib.atoiAll
  simp only
  rw [if_neg (by omega)]
  unfold Go.Lib.parseMag
  rw [if_neg (by simp), hv]
  simp only
  rw [if_neg (by omega), if_neg (by omega), if_neg (by omega)]
theorem readN_num (s : ByteArray) (h : 0 ≤ num s.data.toList) : readN s = (num s.data.toList, true) := by
  obtain ⟨h1, h2⟩ := num_yes _ h
  obtain ⟨n, hn⟩ := Int.eq_ofNat_of_zero_le h
  rw [hn] at h1 h2 ⊢
  have ha := atoi_dec n (by omega)
  rw [← itoa_nat, h1] at ha
  unfold readN
  rw [ha]
  simp only
  rw [if_pos h1]
theorem num_readN (s : ByteArray) (v : Int) (h : readN s = (v, true)) (hv : 0 ≤ v ∧ v < 1000000) : num s.data.toList = v := by
  obtain ⟨n, rfl⟩ := Int.eq_ofNat_of_zero_le hv.1
  have key : Go.Lib.itoa (n : Int) = s.data.toList := by
    unfold readN at h
    split at h
    · rename_i w _
      split at h
      · rename_i z
        obtain ⟨rfl, _⟩ := Prod.mk.inj h
        exact z
      · cases (Prod.mk.inj h).2
    · cases (Prod.mk.inj h).2
  rw [← key, itoa_nat]
  exact num_dec n (by omega)
/-- what reading numbers off a text's pieces tells -/
def okN (p : List UInt8) : Bool := (readN (tx p)).2
def valN (p : List UInt8) : Int := (readN (tx p)).1
def readNs (b : UInt8) (l : List UInt8) : List Int × Bool := if (sp b l).all okN = true then ((sp b l).map valN, true) else ([], false)
theorem strings_Split_eq (s : ByteArray) (b : UInt8) (hs : s.data.toList.length < 4294967281) : strings_Split.f s (⟨#[b]⟩ : ByteArray) = some ((sp b s.data.toList).map tx) := by
  have hz : s.size = s.data.toList.length := by rw [Array.length_toList]; rfl
  have e := Go.Lib.splitB_data (⟨#[b]⟩ : ByteArray) 0 (Go.Lib.countB s (⟨#[b]⟩ : ByteArray)) s
  have e2 : Go.Lib.splitK (⟨#[b]⟩ : ByteArray).data.toList 0 (Go.Lib.countB s (⟨#[b]⟩ : ByteArray)) s.data.toList = sp b s.data.toList := splitK_sp b s.data.toList
  rw [e2] at e
  unfold strings_Split.f
  rw [if_pos ⟨by omega, Nat.le_refl _⟩, ← e, List.map_map]
  congr 1
  conv => lhs; rw [← List.map_id (Go.Lib.splitB _ _ _ _)]
  exact List.map_congr_left fun x _ => (tx_of x).symm
theorem readNumbers_l0 (ps : List (List UInt8)) (hl : ps.length ≤ 17592186044415) (hp : ∀ p ∈ ps, p.length ≤ 281474976710656) (q : Nat) : ∀ (k i : Nat), i + q = ps.length → q < k →
    impl_readNumbers.l0 k ((ps.take i).map valN) (ps.map tx) ((ps.map tx).length : Int) (i : Int) = some (if (ps.drop i).all okN = true then (ps.map valN, true) else ([], false)) := by
  induction q with
  | zero =>
    intro k i hi hk
    obtain ⟨k, rfl⟩ : ∃ m, k = m + 1 := ⟨k - 1, by omega⟩
    simp only [impl_readNumbers.l0]
    rw [List.length_map, if_neg (by omega), List.take_of_length_le (by omega), List.drop_of_length_le (by omega)]
    rfl
  | succ q ih =>
    intro k i hi hk
    obtain ⟨k, rfl⟩ : ∃ m, k = m + 1 := ⟨k - 1, by omega⟩
    have hlt : i < ps.length := by omega
    have e1 : wrap64 ((i : Int) + 1) = ((i + 1 : Nat) : Int) := by rw [w64 (by omega)]; rfl
    have er : rdOf ByteArray.empty (ps.map tx) (i : Int) = tx ps[i] := by simp [rdOf, hlt]
    have hsz : (tx ps[i]).size ≤ 281474976710656 := by rw [tx_size]; exact hp _ (List.getElem_mem hlt)
    have next := ih k (i + 1) (by omega) (by omega)
    have et : ps.take (i + 1) = ps.take i ++ [ps[i]] := by rw [List.take_add_one, List.getElem?_eq_getElem hlt]; rfl
    rw [et, List.map_append, List.length_map] at next
    simp only [impl_readNumbers.l0, impl_readNumber.f]
    rw [List.length_map, if_pos (by omega), if_pos (by omega), if_pos (by omega), er, if_pos hsz, List.drop_eq_getElem_cons hlt, List.all_cons]
    simp only [Option.bind_some]
    by_cases z : okN ps[i] = true
    · have z2 : (readN (tx ps[i])).2 = true := z
      rw [if_pos z2, if_pos (by rw [List.length_map, List.length_take]; omega), e1, z, Bool.true_and]
      exact next
    · have z2 : ¬ (readN (tx ps[i])).2 = true := z
      rw [if_neg z2, if_neg (by intro e; exact z (Bool.and_eq_true _ _ |>.mp e).1)]
theorem impl_readNumbers_eq (s : ByteArray) (b : UInt8) (hs : s.data.toList.length ≤ 1048576) (k : Nat) (hk : 1048580 < k) : impl_readNumbers.f k s (⟨#[b]⟩ : ByteArray) = some (readNs b s.data.toList) := by
  have hn := sp_len b s.data.toList
  have := readNumbers_l0 (sp b s.data.toList) (by omega) (fun p hp => by have := sp_small b s.data.toList p hp; omega) (sp b s.data.toList).length k 0 (by omega) (by omega)
  unfold impl_readNumbers.f
  rw [strings_Split_eq s b (by omega)]
  exact this
theorem readNs_len (b : UInt8) (l : List UInt8) (h : (readNs b l).2 = true) : (readNs b l).1 = (sp b l).map valN ∧ (sp b l).all okN = true := by
  unfold readNs at h ⊢
  by_cases z : (sp b l).all okN = true
  · rw [if_pos z]
    exact ⟨rfl, z⟩
  · rw [if_neg z] at h
    cases h
/-- a piece told as a number is read as that number -/
theorem ok_of_num (p : List UInt8) (h : 0 ≤ num p) : okN p = true ∧ valN p = num p := by
  have := readN_num (tx p) (by rw [tx_data]; exact h)
  rw [tx_data] at this
  unfold okN valN
  rw [this]
  exact ⟨rfl, rfl⟩
theorem num_of_ok (p : List UInt8) (h : okN p = true) (hv : 0 ≤ valN p ∧ valN p < 1000000) : num p = valN p := by
  have := num_readN (tx p) (valN p) (by unfold okN at h; unfold valN; rw [← h]) hv
  rwa [tx_data] at this
/-- the decimal of a number, as a length -/
theorem piece_len (p : List UInt8) (k : Nat) (hk : 1 ≤ k) (h : 0 ≤ num p ∧ num p < 10 ^ k) : p.length ≤ k := by
  obtain ⟨n, hn⟩ := Int.eq_ofNat_of_zero_le h.1
  obtain ⟨h1, h2⟩ := num_yes p h.1
  rw [hn] at h1 h
  rw [itoa_nat] at h1
  rw [← h1]
  exact dec_len6 n k (by have := h.2; exact_mod_cast this) hk

theorem low_g (a b : Int) (hb : 0 < b) : ∃ g : Int, 1 ≤ g ∧ a = lowN a b * g ∧ b = lowD a b * g := by
  have h := gpos (a := a) hb
  exact ⟨(Int.gcd a b : Int), by omega, (Int.ediv_mul_cancel (Int.gcd_dvd_left a b)).symm, (Int.ediv_mul_cancel (Int.gcd_dvd_right a b)).symm⟩
theorem low_gcd (a b : Int) (hb : 0 < b) : Int.gcd (lowN a b) (lowD a b) = 1 := by
  unfold lowN lowD
  exact Int.gcd_ediv_gcd_ediv_gcd (Int.gcd_pos_of_ne_zero_right a (by omega))
theorem cancel {x y z : Int} (hz : 0 < z) (h : x * z = y * z) : x = y := Int.eq_of_mul_eq_mul_right (by omega) h
/-- times rise: what is gone at a turn is less than at the next one -/
theorem rise_low {t o t2 o2 : Int} (ho : 0 < o) (ho2 : 0 < o2) (h : t * o2 < t2 * o) : lowN t o * lowD t2 o2 < lowN t2 o2 * lowD t o := by
  obtain ⟨g, g1, e1, e2⟩ := low_g t o ho
  obtain ⟨f, f1, e3, e4⟩ := low_g t2 o2 ho2
  generalize lowN t o = x at *
  generalize lowD t o = y at *
  generalize lowN t2 o2 = x2 at *
  generalize lowD t2 o2 = y2 at *
  subst e1 e2 e3 e4
  have k : (x * y2) * (g * f) < (x2 * y) * (g * f) := by
    have a1 : x * g * (y2 * f) = (x * y2) * (g * f) := by grind
    have a2 : x2 * f * (y * g) = (x2 * y) * (g * f) := by grind
    rw [← a1, ← a2]
    exact h
  have : 0 < g * f := Int.mul_pos (by omega) (by omega)
  exact Int.lt_of_mul_lt_mul_right k (by omega)
theorem turn_rise {a l r d : Int} (h : isCh a l r d) (k : Nat) : lowN (apT a l r d k) (apO l r d k) * lowD (apT a l r d (k + 1)) (apO l r d (k + 1)) < lowN (apT a l r d (k + 1)) (apO l r d (k + 1)) * lowD (apT a l r d k) (apO l r d k) := by
  have o1 := apO_pos h k
  have o2 := apO_pos h (k + 1)
  have p := apA_pos h k
  refine rise_low (by omega) (by omega) ?_
  show apT a l r d k * (apO l r d k * both l r d k) < (apT a l r d k * both l r d k + apA a l r d k) * apO l r d k
  have e : (apT a l r d k * both l r d k + apA a l r d k) * apO l r d k = apT a l r d k * (apO l r d k * both l r d k) + apA a l r d k * apO l r d k := by grind
  rw [e]
  have := Int.mul_pos (show 0 < apA a l r d k by omega) (show 0 < apO l r d k by omega)
  omega
/-- at an even turn the dog is at the left walker -/
theorem turn_left {a l r d : Int} (h : isCh a l r d) (k : Nat) (e : k % 2 = 0) : lowN (apP a l r d k) (apO l r d k) * lowD (apT a l r d k) (apO l r d k) = l * lowN (apT a l r d k) (apO l r d k) * lowD (apP a l r d k) (apO l r d k) := by
  have o := apO_pos h k
  have c1 := low_cross (apT a l r d k) (apO l r d k)
  have c2 := low_cross (apP a l r d k) (apO l r d k)
  have ep : apP a l r d k = l * apT a l r d k := by rw [apP_eq, if_pos e]
  generalize hx : lowN (apP a l r d k) (apO l r d k) = x at *
  generalize hy : lowD (apP a l r d k) (apO l r d k) = y at *
  rw [ep] at c2
  generalize apT a l r d k = t at *
  generalize apO l r d k = O at *
  generalize lowN t O = u at *
  generalize lowD t O = v at *
  refine cancel (z := O) (by omega) ?_
  grind
/-- at an odd turn it is at the right one -/
theorem turn_right {a l r d : Int} (h : isCh a l r d) (k : Nat) (e : ¬ k % 2 = 0) : (a * lowD (apT a l r d k) (apO l r d k) - r * lowN (apT a l r d k) (apO l r d k)) * lowD (apP a l r d k) (apO l r d k) = lowN (apP a l r d k) (apO l r d k) * lowD (apT a l r d k) (apO l r d k) := by
  have o := apO_pos h k
  have c1 := low_cross (apT a l r d k) (apO l r d k)
  have c2 := low_cross (apP a l r d k) (apO l r d k)
  have ep : apP a l r d k = a * apO l r d k - r * apT a l r d k := by rw [apP_eq, if_neg e]
  generalize hx : lowN (apP a l r d k) (apO l r d k) = x at *
  generalize hy : lowD (apP a l r d k) (apO l r d k) = y at *
  rw [ep] at c2
  generalize apT a l r d k = t at *
  generalize apO l r d k = O at *
  generalize lowN t O = u at *
  generalize lowD t O = v at *
  refine cancel (z := O) (by omega) ?_
  grind
/-- what is left of the way between both -/
theorem turn_apart {a l r d : Int} (h : isCh a l r d) (k : Nat) : lowN (apA a l r d k) (apO l r d k) * lowD (apT a l r d k) (apO l r d k) = lowD (apA a l r d k) (apO l r d k) * (a * lowD (apT a l r d k) (apO l r d k) - (l + r) * lowN (apT a l r d k) (apO l r d k)) := by
  have o := apO_pos h k
  have c1 := low_cross (apT a l r d k) (apO l r d k)
  have c2 := low_cross (apA a l r d k) (apO l r d k)
  have i := apT_inv (a := a) (l := l) (r := r) (d := d) k
  generalize hx : lowN (apA a l r d k) (apO l r d k) = x at *
  generalize hy : lowD (apA a l r d k) (apO l r d k) = y at *
  have ea : apA a l r d k = a * apO l r d k - (l + r) * apT a l r d k := by omega
  rw [ea] at c2
  generalize apT a l r d k = t at *
  generalize apO l r d k = O at *
  generalize lowN t O = u at *
  generalize lowD t O = v at *
  refine cancel (z := O) (by omega) ?_
  grind
theorem first_part {a l r d : Int} (h : isCh a l r d) : lowN (apA a l r d 1) (apO l r d 1) * lowD (d - l) (d + r) = lowD (apA a l r d 1) (apO l r d 1) * lowN (d - l) (d + r) * a := by
  have g := h
  unfold isCh at g
  have eb : both l r d 0 = d + r := rfl
  have eA : apA a l r d 1 = a * (d - l) := by
    show a * (both l r d 0 - l - r) = _
    rw [eb, show d + r - l - r = d - l by omega]
  have eO : apO l r d 1 = d + r := by
    show 1 * both l r d 0 = _
    rw [eb, Int.one_mul]
  rw [eA, eO]
  have c1 := low_cross (a * (d - l)) (d + r)
  have c2 := low_cross (d - l) (d + r)
  generalize lowN (a * (d - l)) (d + r) = x at *
  generalize lowD (a * (d - l)) (d + r) = y at *
  generalize lowN (d - l) (d + r) = p at *
  generalize lowD (d - l) (d + r) = q at *
  refine cancel (z := d + r) (by omega) ?_
  grind
theorem second_part {a l r d : Int} (h : isCh a l r d) : lowN (apA a l r d 2) (apO l r d 2) * lowD (d - r) (d + l) * lowD (apA a l r d 1) (apO l r d 1) = lowD (apA a l r d 2) (apO l r d 2) * lowN (apA a l r d 1) (apO l r d 1) * lowN (d - r) (d + l) := by
  have g := h
  unfold isCh at g
  have o1 := apO_pos h 1
  have eb : both l r d 1 = d + l := rfl
  have eA : apA a l r d 2 = apA a l r d 1 * (d - r) := by
    show apA a l r d 1 * (both l r d 1 - l - r) = _
    rw [eb, show d + l - l - r = d - r by omega]
  have eO : apO l r d 2 = apO l r d 1 * (d + l) := by
    show apO l r d 1 * both l r d 1 = _
    rw [eb]
  rw [eA, eO]
  have c1 := low_cross (apA a l r d 1 * (d - r)) (apO l r d 1 * (d + l))
  have c2 := low_cross (d - r) (d + l)
  have c3 := low_cross (apA a l r d 1) (apO l r d 1)
  have pz : 0 < apO l r d 1 * (d + l) := Int.mul_pos (by omega) (by omega)
  generalize lowN (apA a l r d 1 * (d - r)) (apO l r d 1 * (d + l)) = x at *
  generalize lowD (apA a l r d 1 * (d - r)) (apO l r d 1 * (d + l)) = y at *
  generalize lowN (d - r) (d + l) = p at *
  generalize lowD (d - r) (d + l) = q at *
  generalize lowN (apA a l r d 1) (apO l r d 1) = u at *
  generalize lowD (apA a l r d 1) (apO l r d 1) = v at *
  generalize apA a l r d 1 = A at *
  generalize apO l r d 1 = O at *
  refine cancel (z := O * (d + l)) pz ?_
  grind
theorem far_part (a d b : Int) (hb : 0 < b) : lowN (a * d) b * lowD a b = lowD (a * d) b * lowN a b * d := by
  have c1 := low_cross (a * d) b
  have c2 := low_cross a b
  generalize lowN (a * d) b = x at *
  generalize lowD (a * d) b = y at *
  generalize lowN a b = p at *
  generalize lowD a b = q at *
  refine cancel (z := b) hb ?_
  grind
theorem ways_part (a l r : Int) (hb : 0 < l + r) : lowN (a * l) (l + r) * lowD (a * r) (l + r) + lowN (a * r) (l + r) * lowD (a * l) (l + r) = a * lowD (a * l) (l + r) * lowD (a * r) (l + r) := by
  have c1 := low_cross (a * l) (l + r)
  have c2 := low_cross (a * r) (l + r)
  generalize lowN (a * l) (l + r) = x at *
  generalize lowD (a * l) (l + r) = y at *
  generalize lowN (a * r) (l + r) = p at *
  generalize lowD (a * r) (l + r) = q at *
  refine cancel (z := l + r) hb ?_
  grind
/-- what both tell of a chase, and what they tell where there is none -/
theorem apart_yes (a l r d : Int) (h : isCh a l r d) (n : Nat) (hn : 1 ≤ n ∧ n ≤ 6) (k : Nat) (hk : (1000000000000001 : Int) < k) :
    spec_ApartAfterTurn.f k a l r d (n : Int) = some (lowN (apA a l r d n) (apO l r d n), lowD (apA a l r d n) (apO l r d n), true) ∧ impl_ApartAfterTurn.f k a l r d (n : Int) = some (lowN (apA a l r d n) (apO l r d n), lowD (apA a l r d n) (apO l r d n), true) := by
  obtain ⟨k, rfl⟩ : ∃ m, k = m + 1 := ⟨k - 1, by omega⟩
  have ht : 1 ≤ (n : Int) ∧ (n : Int) ≤ 6 := by omega
  have o1 := apO_pos h n
  have o2 := apO_le7 h n (by omega)
  have a1 := apA_pos h n
  have a2 := apA_le h n
  constructor
  · simp only [spec_ApartAfterTurn.f, spec_doGood_yes a l r d h, spec_l1In_eq, Option.bind_some, ht, and_self, decide_true, if_true, spec_ApartAfterTurn.j0, Bool.not_true, Bool.false_eq_true, if_false]
    rw [spec_doRun_eq a l r d h n (by omega) k (by omega)]
    simp only [Option.bind_some]
    rw [if_pos (by omega), if_pos (by simp only [List.length_map, List.length_range]; omega), rd_st a l r d n n (Nat.le_refl n)]
    simp only [stAt]
    rw [spec_meLow_eq _ _ _ (by omega) (by omega) (by omega) (by omega)]
    rfl
  · simp only [impl_ApartAfterTurn.f, impl_IsChase_yes a l r d h, impl_isTurn_eq, Option.bind_some, ht, and_self, decide_true, if_true, impl_ApartAfterTurn.j0, Bool.not_true, Bool.false_eq_true, if_false]
    rw [impl_apartAt_eq a l r d h n (by omega) k (by omega)]
    simp only [Option.bind_some]
    rw [impl_lowest_eq _ _ _ (by omega) (by omega) (by omega) (by omega)]
    rfl
theorem apart_no (a l r d t : Int) (wd : -9223372036854775808 ≤ d ∧ d ≤ 9223372036854775807) (h : ¬ (isCh a l r d ∧ 1 ≤ t ∧ t ≤ 6)) (k : Nat) (hk : 1 ≤ k) : spec_ApartAfterTurn.f k a l r d t = some (0, 0, false) ∧ impl_ApartAfterTurn.f k a l r d t = some (0, 0, false) := by
  obtain ⟨k, rfl⟩ : ∃ m, k = m + 1 := ⟨k - 1, by omega⟩
  by_cases g : isCh a l r d
  · have ht : ¬ (1 ≤ t ∧ t ≤ 6) := fun z => h ⟨g, z⟩
    constructor
    · simp only [spec_ApartAfterTurn.f, spec_doGood_yes a l r d g, spec_l1In_eq, Option.bind_some, ht, decide_false, if_true, spec_ApartAfterTurn.j0, Bool.not_false]
    · simp only [impl_ApartAfterTurn.f, impl_IsChase_yes a l r d g, impl_isTurn_eq, Option.bind_some, ht, decide_false, if_true, impl_ApartAfterTurn.j0, Bool.not_false]
  · constructor
    · simp [spec_ApartAfterTurn.f, spec_ApartAfterTurn.j0, spec_doGood_no a l r d wd g]
    · simp [impl_ApartAfterTurn.f, impl_ApartAfterTurn.j0, impl_IsChase_no a l r d g]
theorem ratio_yes (a l r d : Int) (h : isCh a l r d) (k : Nat) (hk : 10000000 < k) :
    spec_RatioOfTurns.f k a l r d = some (lowN (d - l) (d + r), lowD (d - l) (d + r), lowN (d - r) (d + l), lowD (d - r) (d + l), true) ∧ impl_RatioOfTurns.f k a l r d = some (lowN (d - l) (d + r), lowD (d - l) (d + r), lowN (d - r) (d + l), lowD (d - r) (d + l), true) := by
  have g := h
  unfold isCh at g
  constructor
  · simp only [spec_RatioOfTurns.f, spec_doGood_yes a l r d h, Option.bind_some, if_true]
    rw [w64 (x := d - l) (by omega), w64 (x := d - r) (by omega), w64 (x := d + l) (by omega), w64 (x := d + r) (by omega), spec_meLow_eq _ _ _ (by omega) (by omega) (by omega) (by omega)]
    simp only [Option.bind_some]
    rw [spec_meLow_eq _ _ _ (by omega) (by omega) (by omega) (by omega)]
    rfl
  · simp only [impl_RatioOfTurns.f, impl_IsChase_yes a l r d h, Option.bind_some, if_true]
    rw [w64 (x := d - l) (by omega), w64 (x := d - r) (by omega), w64 (x := d + l) (by omega), w64 (x := d + r) (by omega), impl_lowest_eq _ _ _ (by omega) (by omega) (by omega) (by omega)]
    simp only [Option.bind_some]
    rw [impl_lowest_eq _ _ _ (by omega) (by omega) (by omega) (by omega)]
    rfl
theorem meet_yes (a l r d : Int) (h : isCh a l r d) (k : Nat) (hk : 10000000 < k) : spec_TimeToMeet.f k a l r d = some (lowN a (l + r), lowD a (l + r), true) ∧ impl_TimeToMeet.f k a l r d = some (lowN a (l + r), lowD a (l + r), true) := by
  have g := h
  unfold isCh at g
  constructor
  · simp only [spec_TimeToMeet.f, spec_doGood_yes a l r d h, Option.bind_some, if_true]
    rw [w64 (x := l + r) (by omega), spec_meLow_eq _ _ _ (by omega) (by omega) (by omega) (by omega)]
    rfl
  · simp only [impl_TimeToMeet.f, impl_IsChase_yes a l r d h, Option.bind_some, if_true]
    rw [w64 (x := l + r) (by omega), impl_lowest_eq _ _ _ (by omega) (by omega) (by omega) (by omega)]
    rfl
theorem far_yes (a l r d : Int) (h : isCh a l r d) (k : Nat) (hk : 10000000 < k) : spec_DogDistance.f k a l r d = some (lowN (a * d) (l + r), lowD (a * d) (l + r), true) ∧ impl_DogDistance.f k a l r d = some (lowN (a * d) (l + r), lowD (a * d) (l + r), true) := by
  have g := h
  unfold isCh at g
  have p := bm (A := 1000) (B := 20) (a := a) (b := d) (by omega) (by omega)
  constructor
  · simp only [spec_DogDistance.f, spec_doGood_yes a l r d h, Option.bind_some, if_true]
    rw [w64 (x := a * d) (by omega), w64 (x := l + r) (by omega), spec_meLow_eq _ _ _ (by omega) (by omega) (by omega) (by omega)]
    rfl
  · simp only [impl_DogDistance.f, impl_IsChase_yes a l r d h, Option.bind_some, if_true]
    rw [Int.mul_comm d a, w64 (x := a * d) (by omega), w64 (x := l + r) (by omega), impl_lowest_eq _ _ _ (by omega) (by omega) (by omega) (by omega)]
    rfl
theorem ways_yes (a l r d : Int) (h : isCh a l r d) (k : Nat) (hk : 10000000 < k) :
    spec_DistanceOf.f k a l r d = some (lowN (a * l) (l + r), lowD (a * l) (l + r), lowN (a * r) (l + r), lowD (a * r) (l + r), true) ∧ impl_DistanceOf.f k a l r d = some (lowN (a * l) (l + r), lowD (a * l) (l + r), lowN (a * r) (l + r), lowD (a * r) (l + r), true) := by
  have g := h
  unfold isCh at g
  have p := bm (A := 1000) (B := 20) (a := a) (b := l) (by omega) (by omega)
  have q := bm (A := 1000) (B := 20) (a := a) (b := r) (by omega) (by omega)
  constructor
  · simp only [spec_DistanceOf.f, spec_doGood_yes a l r d h, Option.bind_some, if_true]
    rw [w64 (x := a * l) (by omega), w64 (x := a * r) (by omega), w64 (x := l + r) (by omega), spec_meLow_eq _ _ _ (by omega) (by omega) (by omega) (by omega)]
    simp only [Option.bind_some]
    rw [spec_meLow_eq _ _ _ (by omega) (by omega) (by omega) (by omega)]
    rfl
  · simp only [impl_DistanceOf.f, impl_IsChase_yes a l r d h, Option.bind_some, if_true]
    rw [Int.mul_comm l a, Int.mul_comm r a, w64 (x := a * l) (by omega), w64 (x := a * r) (by omega), w64 (x := l + r) (by omega), impl_lowest_eq _ _ _ (by omega) (by omega) (by omega) (by omega)]
    simp only [Option.bind_some]
    rw [impl_lowest_eq _ _ _ (by omega) (by omega) (by omega) (by omega)]
    rfl
theorem turned_yes (a l r d : Int) (h : isCh a l r d) : spec_TurnChase.f a l r d = some (a, r, l, d, true) ∧ impl_TurnChase.f a l r d = some (a, r, l, d, true) := by
  constructor
  · simp [spec_TurnChase.f, spec_doGood_yes a l r d h]
  · simp [impl_TurnChase.f, impl_IsChase_yes a l r d h]
theorem parts_no (a l r d : Int) (wd : -9223372036854775808 ≤ d ∧ d ≤ 9223372036854775807) (h : ¬ isCh a l r d) (k : Nat) :
    (spec_RatioOfTurns.f k a l r d = some (0, 0, 0, 0, false) ∧ impl_RatioOfTurns.f k a l r d = some (0, 0, 0, 0, false)) ∧ (spec_TimeToMeet.f k a l r d = some (0, 0, false) ∧ impl_TimeToMeet.f k a l r d = some (0, 0, false)) ∧
    (spec_DogDistance.f k a l r d = some (0, 0, false) ∧ impl_DogDistance.f k a l r d = some (0, 0, false)) ∧ (spec_DistanceOf.f k a l r d = some (0, 0, 0, 0, false) ∧ impl_DistanceOf.f k a l r d = some (0, 0, 0, 0, false)) ∧
    (spec_TurnChase.f a l r d = some (0, 0, 0, 0, false) ∧ impl_TurnChase.f a l r d = some (0, 0, 0, 0, false)) := by
  have e1 := spec_doGood_no a l r d wd h
  have e2 := impl_IsChase_no a l r d h
  refine ⟨⟨?_, ?_⟩, ⟨?_, ?_⟩, ⟨?_, ?_⟩, ⟨?_, ?_⟩, ?_, ?_⟩
  · simp [spec_RatioOfTurns.f, e1]
  · simp [impl_RatioOfTurns.f, e2]
  · simp [spec_TimeToMeet.f, e1]
  · simp [impl_TimeToMeet.f, e2]
  · simp [spec_DogDistance.f, e1]
  · simp [impl_DogDistance.f, e2]
  · simp [spec_DistanceOf.f, e1]
  · simp [impl_DistanceOf.f, e2]
  · simp [spec_TurnChase.f, e1]
  · simp [impl_TurnChase.f, e2]
theorem spec_IsChase_yes (a l r d : Int) (h : isCh a l r d) : spec_IsChase.f a l r d = some true := by simp [spec_IsChase.f, spec_doGood_yes a l r d h]
theorem spec_IsChase_no (a l r d : Int) (wd : -9223372036854775808 ≤ d ∧ d ≤ 9223372036854775807) (h : ¬ isCh a l r d) : spec_IsChase.f a l r d = some false := by simp [spec_IsChase.f, spec_doGood_no a l r d wd h]
set_option maxHeartbeats 8000000 in
/-- one turn to the right more -/
theorem right_step (a l r d : Int) (h : isCh a l r d) (m : Nat) (k : Nat) (hm : 2 * m ≤ 4) (hk : (1000000000000000000 : Int) < k) (t : Int) (ht : ((2 * m + 1 : Nat) : Int) ≤ t) :
    impl_RunToRight.l0 (k + 1) t (lowN ((l + r) * apQ a l r d (2 * m)) (apO l r d (2 * m))) (lowD ((l + r) * apQ a l r d (2 * m)) (apO l r d (2 * m))) ((2 * m + 1 : Nat) : Int) a l r d =
    impl_RunToRight.l0 k t (lowN ((l + r) * apQ a l r d (2 * (m + 1))) (apO l r d (2 * (m + 1)))) (lowD ((l + r) * apQ a l r d (2 * (m + 1))) (apO l r d (2 * (m + 1)))) ((2 * (m + 1) + 1 : Nat) : Int) a l r d := by
  have e0 : wrap64 (((2 * m + 1 : Nat) : Int) - 1) = ((2 * m : Nat) : Int) := by rw [w64 (by omega)]; omega
  have e1 : wrap64 (((2 * m + 1 : Nat) : Int) + 2) = ((2 * (m + 1) + 1 : Nat) : Int) := by rw [w64 (by omega)]; omega
  simp only [impl_RunToRight.l0]
  rw [if_pos ht, e0, impl_apartAt_eq a l r d h (2 * m) (by omega) k (by omega)]
  simp only [Option.bind_some]
  rw [impl_apartAt_eq a l r d h (2 * m + 1) (by omega) k (by omega)]
  simp only [Option.bind_some]
  have o1 := apO_pos h (2 * m)
  have o2 := apO_le4 h (2 * m) hm
  have b := both_range h (2 * m)
  have eb : both l r d (2 * m) = d + r := by unfold both; rw [if_pos (by omega)]
  have eO : apO l r d (2 * m + 1) = apO l r d (2 * m) * (d + r) := by rw [← eb]; rfl
  have eA : apA a l r d (2 * m + 1) = apA a l r d (2 * m) * (d - l) := by
    have : d - l = both l r d (2 * m) - l - r := by rw [eb]; omega
    rw [this]; rfl
  have eQ : apQ a l r d (2 * m + 1) = apQ a l r d (2 * m) * (d + r) + apA a l r d (2 * m) := by
    rw [← eb]
    show _ + (if (2 * m) % 2 = 0 then _ else _) = _
    rw [if_pos (by omega)]
  have q1 := apQ_range h (2 * m)
  have t1 := lrT_le h (2 * m)
  have t2 := apT_nonneg h (2 * m)
  have a1 := apA_pos h (2 * m)
  have a2 := apA_le h (2 * m)
  have g := h
  unfold isCh at g
  rw [eb] at b
  generalize hO : apO l r d (2 * m) = O at *
  generalize hA : apA a l r d (2 * m) = A at *
  generalize hQ : apQ a l r d (2 * m) = Q at *
  have x0 : 0 ≤ (l + r) * Q := Int.mul_nonneg (by omega) q1.1
  have x1 : (l + r) * Q ≤ (l + r) * apT a l r d (2 * m) := Int.mul_le_mul_of_nonneg_left q1.2 (by omega)
  have c1 := low_nonneg (a := (l + r) * Q) (b := O) x0 (by omega)
  have c2 := lowD_range (a := (l + r) * Q) (b := O) (by omega)
  have cc := low_cross ((l + r) * Q) O
  generalize hc : lowN ((l + r) * Q) O = c at *
  generalize he : lowD ((l + r) * Q) O = e at *
  have dv : Int.tdiv (apO l r d (2 * m + 1)) O = d + r := by
    rw [eO, Int.tdiv_eq_ediv_of_nonneg (Int.mul_nonneg (by omega) (by omega)), Int.mul_ediv_cancel_left _ (by omega)]
  have p1 := bm (A := 2560000) (B := 40) (a := O) (b := d + r) (by omega) (by omega)
  have p2 := bm (A := 2560000000) (B := 40) (a := A) (b := d + r) (by omega) (by omega)
  have p3 := bm (A := 2560000000) (B := 20) (a := A) (b := d - l) (by omega) (by omega)
  have p4 := bm (A := 2560000000) (B := 102400000) (a := c) (b := O * (d + r)) (by omega) (by omega)
  have ea : A * (d + r) - A * (d - l) = A * (l + r) := by rw [← Int.mul_sub]; congr 1; omega
  have p5 := bm (A := 2560000000) (B := 40) (a := A) (b := l + r) (by omega) (by omega)
  have p6 := bm (A := 102400000000) (B := 2560000) (a := A * (l + r)) (b := e) (by omega) (by omega)
  have p7 := bm (A := 2560000) (B := 102400000) (a := e) (b := O * (d + r)) (by omega) (by omega)
  have p8 : 0 < O * (d + r) := Int.mul_pos (by omega) (by omega)
  have p9 : 0 < e * (O * (d + r)) := Int.mul_pos (by omega) p8
  rw [if_neg (by omega), dv, eO, eA, w64 (x := d + r) (by omega), w64 (x := A * (d + r)) (by omega), w64 (x := A * (d + r) - A * (d - l)) (by omega), ea, w64 (x := A * (l + r) * e) (by omega), w64 (x := c * (O * (d + r))) (by omega), w64 (x := c * (O * (d + r)) + A * (l + r) * e) (by omega), w64 (x := e * (O * (d + r))) (by omega),
    impl_lowest_eq _ _ _ (by omega) (by omega) (by omega) (by omega), e1]
  simp only [Option.bind_some]
  have eb2 : both l r d (2 * m + 1) = d + l := by unfold both; rw [if_neg (by omega)]
  have eO2 : apO l r d (2 * (m + 1)) = O * (d + r) * (d + l) := by
    show apO l r d (2 * m + 1) * both l r d (2 * m + 1) = _
    rw [eO, eb2]
  have eQ2 : apQ a l r d (2 * (m + 1)) = (Q * (d + r) + A) * (d + l) := by
    show apQ a l r d (2 * m + 1) * both l r d (2 * m + 1) + (if (2 * m + 1) % 2 = 0 then _ else _) = _
    rw [if_neg (by omega), eQ, eb2, Int.add_zero]
  have key := low_eq (a := c * (O * (d + r)) + A * (l + r) * e) (b := e * (O * (d + r))) (c := (l + r) * apQ a l r d (2 * (m + 1))) (d := apO l r d (2 * (m + 1))) p9 (by have := apO_pos h (2 * (m + 1)); omega) (by
    rw [eO2, eQ2]
    have : c * (O * (d + r)) = (l + r) * Q * e * (d + r) := by rw [← cc]; grind
    rw [this]
    grind)
  rw [key.1, key.2]
set_option maxHeartbeats 8000000 in
theorem right_end (a l r d : Int) (h : isCh a l r d) (m : Nat) (k : Nat) (hm : 2 * m ≤ 6) (hk : (1000000000000000000 : Int) < k) (n : Nat) (hn : n = 2 * m ∨ n + 1 = 2 * m) :
    impl_RunToRight.l0 (k + 1) (n : Int) (lowN ((l + r) * apQ a l r d (2 * m)) (apO l r d (2 * m))) (lowD ((l + r) * apQ a l r d (2 * m)) (apO l r d (2 * m))) ((2 * m + 1 : Nat) : Int) a l r d =
    some (lowN (d * apQ a l r d n) (apO l r d n), lowD (d * apQ a l r d n) (apO l r d n), true) := by
  have o1 := apO_pos h (2 * m)
  have o2 := apO_le7 h (2 * m) (by omega)
  have q1 := apQ_range h (2 * m)
  have t1 := lrT_le h (2 * m)
  have g := h
  unfold isCh at g
  have x0 : 0 ≤ (l + r) * apQ a l r d (2 * m) := Int.mul_nonneg (by omega) q1.1
  have x1 : (l + r) * apQ a l r d (2 * m) ≤ (l + r) * apT a l r d (2 * m) := Int.mul_le_mul_of_nonneg_left q1.2 (by omega)
  have c1 := low_nonneg (a := (l + r) * apQ a l r d (2 * m)) (b := apO l r d (2 * m)) x0 (by omega)
  have c2 := lowD_range (a := (l + r) * apQ a l r d (2 * m)) (b := apO l r d (2 * m)) (by omega)
  have cc := low_cross ((l + r) * apQ a l r d (2 * m)) (apO l r d (2 * m))
  have key : lowN (d * lowN ((l + r) * apQ a l r d (2 * m)) (apO l r d (2 * m))) (lowD ((l + r) * apQ a l r d (2 * m)) (apO l r d (2 * m)) * (l + r)) = lowN (d * apQ a l r d n) (apO l r d n) ∧
      lowD (d * lowN ((l + r) * apQ a l r d (2 * m)) (apO l r d (2 * m))) (lowD ((l + r) * apQ a l r d (2 * m)) (apO l r d (2 * m)) * (l + r)) = lowD (d * apQ a l r d n) (apO l r d n) := by
    have on := apO_pos h n
    have c3 : 0 < lowD ((l + r) * apQ a l r d (2 * m)) (apO l r d (2 * m)) * (l + r) := Int.mul_pos (by omega) (by omega)
    refine low_eq c3 (by omega) ?_
    have base : d * lowN ((l + r) * apQ a l r d (2 * m)) (apO l r d (2 * m)) * apO l r d (2 * m) = d * apQ a l r d (2 * m) * (lowD ((l + r) * apQ a l r d (2 * m)) (apO l r d (2 * m)) * (l + r)) := by
      rw [Int.mul_assoc, cc]
      grind
    rcases hn with rfl | hn
    · exact base
    · have eO : apO l r d (2 * m) = apO l r d n * both l r d n := by rw [← hn]; rfl
      have eQ : apQ a l r d (2 * m) = apQ a l r d n * both l r d n := by
        rw [← hn]
        show _ + (if n % 2 = 0 then _ else _) = _
        rw [if_neg (by omega), Int.add_zero]
      have b := both_range h n
      generalize lowN ((l + r) * apQ a l r d (2 * m)) (apO l r d (2 * m)) = c at *
      generalize lowD ((l + r) * apQ a l r d (2 * m)) (apO l r d (2 * m)) = e at *
      rw [eO, eQ] at base
      have : (d * c * apO l r d n) * both l r d n = (d * apQ a l r d n * (e * (l + r))) * both l r d n := by grind
      exact Int.eq_of_mul_eq_mul_right (by omega) this
  generalize lowN ((l + r) * apQ a l r d (2 * m)) (apO l r d (2 * m)) = c at *
  generalize lowD ((l + r) * apQ a l r d (2 * m)) (apO l r d (2 * m)) = e at *
  have p1 := bm (A := 20) (B := 163840000000000) (a := d) (b := c) (by omega) (by omega)
  have p2 := bm (A := 163840000000) (B := 40) (a := e) (b := l + r) (by omega) (by omega)
  have p3 : 0 < e * (l + r) := Int.mul_pos (by omega) (by omega)
  simp only [impl_RunToRight.l0]
  rw [if_neg (by omega), w64 (x := l + r) (by omega), w64 (x := d * c) (by omega), w64 (x := e * (l + r)) (by omega), impl_lowest_eq _ _ _ (by omega) (by omega) (by omega) (by omega), key.1, key.2]
  rfl
theorem right_all (a l r d : Int) (h : isCh a l r d) (n : Nat) (hn : 1 ≤ n ∧ n ≤ 6) (k : Nat) (hk : (1000000000000000000 : Int) < k) :
    impl_RunToRight.l0 (k + 4) (n : Int) 0 1 1 a l r d = some (lowN (d * apQ a l r d n) (apO l r d n), lowD (d * apQ a l r d n) (apO l r d n), true) := by
  have z1 : lowN ((l + r) * apQ a l r d (2 * 0)) (apO l r d (2 * 0)) = 0 := by simp [apQ, apO, lowN]
  have z2 : lowD ((l + r) * apQ a l r d (2 * 0)) (apO l r d (2 * 0)) = 1 := by simp [apQ, apO, lowD]
  have s0 := right_step a l r d h 0 (k + 3) (by omega) (by omega) (n : Int) (by omega)
  rw [z1, z2] at s0
  refine Eq.trans s0 ?_
  by_cases h1 : n ≤ 2
  · exact right_end a l r d h 1 (k + 2) (by omega) (by omega) n (by omega)
  · refine Eq.trans (right_step a l r d h 1 (k + 2) (by omega) (by omega) (n : Int) (by omega)) ?_
    by_cases h2 : n ≤ 4
    · exact right_end a l r d h 2 (k + 1) (by omega) (by omega) n (by omega)
    · refine Eq.trans (right_step a l r d h 2 (k + 1) (by omega) (by omega) (n : Int) (by omega)) ?_
      exact right_end a l r d h 3 k (by omega) (by omega) n (by omega)
theorem right_yes (a l r d : Int) (h : isCh a l r d) (n : Nat) (hn : 1 ≤ n ∧ n ≤ 6) (k : Nat) (hk : (1000000000000000010 : Int) < k) :
    spec_RunToRight.f k a l r d (n : Int) = some (lowN (d * apQ a l r d n) (apO l r d n), lowD (d * apQ a l r d n) (apO l r d n), true) ∧ impl_RunToRight.f k a l r d (n : Int) = some (lowN (d * apQ a l r d n) (apO l r d n), lowD (d * apQ a l r d n) (apO l r d n), true) := by
  obtain ⟨k, rfl⟩ : ∃ m, k = m + 5 := ⟨k - 5, by omega⟩
  have ht : 1 ≤ (n : Int) ∧ (n : Int) ≤ 6 := by omega
  have o1 := apO_pos h n
  have o2 := apO_le7 h n (by omega)
  have q1 := apQ_range h n
  have t1 := apT_le h n
  have g := h
  unfold isCh at g
  have p := bm (A := 20) (B := 163840000000000) (a := d) (b := apQ a l r d n) (by omega) (by omega)
  constructor
  · simp only [spec_RunToRight.f, spec_doGood_yes a l r d h, spec_l1In_eq, Option.bind_some, ht, and_self, decide_true, if_true, spec_RunToRight.j0, Bool.not_true, Bool.false_eq_true, if_false]
    rw [spec_doRun_eq a l r d h n (by omega) (k + 4) (by omega)]
    simp only [Option.bind_some]
    rw [if_pos (by omega), if_pos (by simp only [List.length_map, List.length_range]; omega), rd_st a l r d n n (Nat.le_refl n)]
    simp only [stAt]
    rw [spec_meLow_eq _ _ _ (by omega) (by omega) (by omega) (by omega)]
    rfl
  · simp only [impl_RunToRight.f, impl_IsChase_yes a l r d h, impl_isTurn_eq, Option.bind_some, ht, and_self, decide_true, if_true, impl_RunToRight.j0, Bool.not_true, Bool.false_eq_true, if_false]
    exact right_all a l r d h n (by omega) k (by omega)
theorem right_no (a l r d t : Int) (wd : -9223372036854775808 ≤ d ∧ d ≤ 9223372036854775807) (h : ¬ (isCh a l r d ∧ 1 ≤ t ∧ t ≤ 6)) (k : Nat) (hk : 1 ≤ k) : spec_RunToRight.f k a l r d t = some (0, 0, false) ∧ impl_RunToRight.f k a l r d t = some (0, 0, false) := by
  obtain ⟨k, rfl⟩ : ∃ m, k = m + 1 := ⟨k - 1, by omega⟩
  by_cases g : isCh a l r d
  · have ht : ¬ (1 ≤ t ∧ t ≤ 6) := fun z => h ⟨g, z⟩
    constructor
    · simp only [spec_RunToRight.f, spec_doGood_yes a l r d g, spec_l1In_eq, Option.bind_some, ht, decide_false, if_true, spec_RunToRight.j0, Bool.not_false]
    · simp only [impl_RunToRight.f, impl_IsChase_yes a l r d g, impl_isTurn_eq, Option.bind_some, ht, decide_false, if_true, impl_RunToRight.j0, Bool.not_false]
  · constructor
    · simp [spec_RunToRight.f, spec_RunToRight.j0, spec_doGood_no a l r d wd g]
    · simp [impl_RunToRight.f, impl_RunToRight.j0, impl_IsChase_no a l r d g]
theorem yLow_l0 (n : Nat) : ∀ (k : Nat) (a b : Int), 0 ≤ a → 0 ≤ b → b ≤ n → n < k → Int.gcd a b = 1 → laws_yLow.l0 k a b = some true := by
  have fin : ∀ (k : Nat) (a : Int), 0 ≤ a → Int.gcd a 0 = 1 → laws_yLow.l0 (k + 1) a 0 = some true := by
    intro k a ha e
    have hg : a = 1 := by rw [Int.gcd_zero_right] at e; omega
    subst hg
    simp only [laws_yLow.l0]
    rw [if_neg (by omega)]
    rfl
  induction n with
  | zero =>
    intro k a b ha hb hn hk e
    obtain ⟨k, rfl⟩ : ∃ m, k = m + 1 := ⟨k - 1, by omega⟩
    obtain rfl : b = 0 := by omega
    exact fin k a ha e
  | succ n ih =>
    intro k a b ha hb hn hk e
    obtain ⟨k, rfl⟩ : ∃ m, k = m + 1 := ⟨k - 1, by omega⟩
    by_cases h : b > 0
    · simp only [laws_yLow.l0]
      rw [if_pos h, if_neg (by omega)]
      have h1 : 0 ≤ a.tmod b := Int.tmod_nonneg b ha
      have h2 : a.tmod b < b := Int.tmod_lt_of_pos a h
      exact ih k b (a.tmod b) hb h1 (by omega) (by omega) ((gcd_step a b ha hb).trans e)
    · obtain rfl : b = 0 := by omega
      exact fin k a ha e
theorem yLow_low (a b : Int) (ha : 0 ≤ a) (hb : 0 < b) (k : Nat) (hk : b + 2 < k) : laws_yLow.f k (lowN a b) (lowD a b) = some true := by
  have r := lowD_range (a := a) hb
  have n := low_nonneg (a := a) (b := b) ha hb
  have g := low_gcd a b hb
  obtain ⟨k, rfl⟩ : ∃ m, k = m + 1 := ⟨k - 1, by omega⟩
  unfold laws_yLow.f
  rw [if_neg (by omega), if_neg (by omega)]
  simp only [laws_yLow.j0]
  exact yLow_l0 (lowD a b).toNat k _ _ n.1 (by omega) (by omega) (by omega) g
theorem ySame_l0 (l : List Int) (hl : l.length ≤ 1000) (q : Nat) : ∀ (k i : Nat), i + q = l.length → q < k → laws_ySame.l0 k l l (l.length : Int) (i : Int) = some true := by
  induction q with
  | zero =>
    intro k i hi hk
    obtain ⟨k, rfl⟩ : ∃ m, k = m + 1 := ⟨k - 1, by omega⟩
    simp only [laws_ySame.l0]
    rw [if_neg (by omega)]
  | succ q ih =>
    intro k i hi hk
    obtain ⟨k, rfl⟩ : ∃ m, k = m + 1 := ⟨k - 1, by omega⟩
    have e1 : wrap64 ((i : Int) + 1) = ((i + 1 : Nat) : Int) := by rw [w64 (by omega)]; rfl
    simp only [laws_ySame.l0]
    rw [if_pos (by omega), if_pos (by omega), if_pos (by omega), if_pos (by omega), if_pos trivial, e1]
    exact ih k (i + 1) (by omega) (by omega)
theorem ySame_eq (l : List Int) (hl : l.length ≤ 1000) (k : Nat) (hk : 1000 < k) : laws_ySame.f k l l = some true := by
  unfold laws_ySame.f
  rw [if_pos rfl]
  exact ySame_l0 l hl l.length k 0 (by omega) (by omega)
theorem yRows_l0 (L : List (List Int)) (hL : L.length ≤ 1000) (hr : ∀ x ∈ L, x.length ≤ 1000) (q : Nat) : ∀ (k i : Nat), i + q = L.length → q + 1000 < k → laws_yRows.l0 k L L (L.length : Int) (i : Int) = some true := by
  induction q with
  | zero =>
    intro k i hi hk
    obtain ⟨k, rfl⟩ : ∃ m, k = m + 1 := ⟨k - 1, by omega⟩
    simp only [laws_yRows.l0]
    rw [if_neg (by omega)]
  | succ q ih =>
    intro k i hi hk
    obtain ⟨k, rfl⟩ : ∃ m, k = m + 1 := ⟨k - 1, by omega⟩
    have hlt : i < L.length := by omega
    have e1 : wrap64 ((i : Int) + 1) = ((i + 1 : Nat) : Int) := by rw [w64 (by omega)]; rfl
    have er : rd_L2 L (i : Int) = L[i] := by simp [rd_L2, hlt]
    have hl := hr L[i] (List.getElem_mem hlt)
    simp only [laws_yRows.l0]
    rw [if_pos (by omega), if_pos (by omega), if_pos (by omega), if_pos (by omega), er, ySame_eq L[i] hl k (by omega), e1]
    simp only [Option.bind_some, if_true]
    exact ih k (i + 1) (by omega) (by omega)
theorem yRows_eq (L : List (List Int)) (hL : L.length ≤ 1000) (hr : ∀ x ∈ L, x.length ≤ 1000) (k : Nat) (hk : 3000 < k) : laws_yRows.f k L L = some true := by
  unfold laws_yRows.f
  rw [if_pos rfl]
  exact yRows_l0 L hL hr L.length k 0 (by omega) (by omega)
/-- a text is cut where the byte stands -/
theorem sp_app (b : UInt8) (q : List UInt8) : ∀ p : List UInt8, (∀ c ∈ p, c ≠ b) → sp b (p ++ b :: q) = p :: sp b q := by
  intro p
  induction p with
  | nil =>
    intro _
    show sp b (b :: q) = _
    simp [sp]
  | cons c p ih =>
    intro h
    have hc : c ≠ b := h c (List.mem_cons_self ..)
    rw [List.cons_append]
    conv => lhs; unfold sp
    rw [if_neg hc, ih (fun x hx => h x (List.mem_cons_of_mem _ hx))]
theorem sp_one (b : UInt8) : ∀ p : List UInt8, (∀ c ∈ p, c ≠ b) → sp b p = [p] := by
  intro p
  induction p with
  | nil =>
    intro _
    rfl
  | cons c p ih =>
    intro h
    have hc : c ≠ b := h c (List.mem_cons_self ..)
    unfold sp
    rw [if_neg hc, ih (fun x hx => h x (List.mem_cons_of_mem _ hx))]
theorem dig_ne (l : List UInt8) (h : l.all isDig = true) (b : UInt8) (hb : b.toNat < 48) : ∀ c ∈ l, c ≠ b := by
  intro c hc e
  have h1 := List.all_eq_true.mp h c hc
  unfold isDig at h1
  have h2 := of_decide_eq_true h1
  rw [e] at h2
  omega
theorem itoa_ne (x : Int) (hx : 0 ≤ x) (b : UInt8) (hb : b.toNat < 48) : ∀ c ∈ Go.Lib.itoa x, c ≠ b := by
  obtain ⟨n, rfl⟩ := Int.eq_ofNat_of_zero_le hx
  rw [itoa_nat]
  exact dig_ne _ (dec_val n).2 b hb
theorem num_itoa (x : Int) (hx : 0 ≤ x ∧ x < 1000000) : num (Go.Lib.itoa x) = x := by
  obtain ⟨n, rfl⟩ := Int.eq_ofNat_of_zero_le hx.1
  rw [itoa_nat]
  exact num_dec n (by omega)
theorem join4 (a b c d : List UInt8) : (Go.Lib.join [a, b, c, d] [45]).length = a.length + b.length + c.length + d.length + 3 := by
  rw [Go.Lib.join_cons]
  simp [Go.Lib.joinTail]
  omega
theorem num_ge (p : List UInt8) : -1 ≤ num p := by
  unfold num
  split <;> omega
theorem num_range (p : List UInt8) : -1 ≤ num p ∧ num p < 1000000 := by
  by_cases h : 0 ≤ num p
  · have := num_yes p h
    omega
  · have := num_ge p
    omega
instance (a b c d : Int) : Decidable (isCh a b c d) := by unfold isCh; infer_instance
/-- the answer of both -/
def chOf (l : List UInt8) : Int × Int × Int × Int × Bool := match sp 45 l with
  | [a, b, c, d] => if isCh (num a) (num b) (num c) (num d) then (num a, num b, num c, num d, true) else (0, 0, 0, 0, false)
  | _ => (0, 0, 0, 0, false)
theorem chOf_no (l : List UInt8) (h : (sp 45 l).length ≠ 4) : chOf l = (0, 0, 0, 0, false) := by
  unfold chOf
  split
  · rename_i a b c d e
    rw [e] at h
    exact absurd rfl h
  · rfl
theorem chOf_yes (l : List UInt8) (a b c d : List UInt8) (h : sp 45 l = [a, b, c, d]) : chOf l = if isCh (num a) (num b) (num c) (num d) then (num a, num b, num c, num d, true) else (0, 0, 0, 0, false) := by
  unfold chOf
  rw [h]
theorem four {α : Type} (l : List α) (h : l.length = 4) : ∃ a b c d, l = [a, b, c, d] := by
  match l, h with
  | [a, b, c, d], _ => exact ⟨a, b, c, d, rfl⟩
theorem impl_ParseChase_eq (s : ByteArray) (hs : s.data.toList.length ≤ 1048576) (k : Nat) (hk : 1048590 < k) : impl_ParseChase.f k s = some (chOf s.data.toList) := by
  unfold impl_ParseChase.f
  rw [impl_readNumbers_eq s 45 hs k (by omega)]
  simp only [Option.bind_some]
  by_cases h2 : (readNs 45 s.data.toList).2 = true
  · obtain ⟨e1, e2⟩ := readNs_len 45 s.data.toList h2
    rw [if_pos h2, e1, List.length_map]
    by_cases h4 : (sp 45 s.data.toList).length = 4
    · obtain ⟨a, b, c, d, hq⟩ := four _ h4
      rw [chOf_yes _ a b c d hq, hq]
      rw [hq] at e2
      simp only [List.all_cons, List.all_nil, Bool.and_true, Bool.and_eq_true] at e2
      obtain ⟨oa, ob, oc, od⟩ := e2
      have r0 : rd ([a, b, c, d].map valN) 0 = valN a := rfl
      have r1 : rd ([a, b, c, d].map valN) 1 = valN b := rfl
      have r2 : rd ([a, b, c, d].map valN) 2 = valN c := rfl
      have r3 : rd ([a, b, c, d].map valN) 3 = valN d := rfl
      rw [r0, r1, r2, r3]
      simp only [List.length_cons, List.length_nil]
      rw [if_pos (by decide), if_pos (by decide), if_pos (by decide), if_pos (by decide), if_pos (by decide)]
      by_cases h : isCh (num a) (num b) (num c) (num d)
      · have g := h
        unfold isCh at g
        rw [(ok_of_num a (by omega)).2, (ok_of_num b (by omega)).2, (ok_of_num c (by omega)).2, (ok_of_num d (by omega)).2, impl_IsChase_yes _ _ _ _ h, if_pos h]
        rfl
      · have h' : ¬ isCh (valN a) (valN b) (valN c) (valN d) := by
          intro z
          have g := z
          unfold isCh at g
          rw [← num_of_ok a oa (by omega), ← num_of_ok b ob (by omega), ← num_of_ok c oc (by omega), ← num_of_ok d od (by omega)] at z
          exact h z
        rw [impl_IsChase_no _ _ _ _ h', if_neg h]
        rfl
    · rw [if_neg (by omega), chOf_no _ h4]
  · rw [if_neg h2]
    by_cases h4 : (sp 45 s.data.toList).length = 4
    · obtain ⟨a, b, c, d, hq⟩ := four _ h4
      rw [chOf_yes _ a b c d hq, if_neg]
      intro g
      unfold isCh at g
      refine h2 ?_
      unfold readNs
      rw [hq, if_pos]
      simp only [List.all_cons, List.all_nil, Bool.and_true, Bool.and_eq_true]
      exact ⟨(ok_of_num a (by omega)).1, (ok_of_num b (by omega)).1, (ok_of_num c (by omega)).1, (ok_of_num d (by omega)).1⟩
    · rw [chOf_no _ h4]
theorem chase_round (a l r d : Int) (h : isCh a l r d) : chOf (chaseTx a l r d).data.toList = (a, l, r, d, true) := by
  have g := h
  unfold isCh at g
  have z : (45 : UInt8).toNat < 48 := by decide
  have hs : sp 45 (chaseTx a l r d).data.toList = [Go.Lib.itoa a, Go.Lib.itoa l, Go.Lib.itoa r, Go.Lib.itoa d] := by
    unfold chaseTx
    rw [tx_data]
    simp only [List.append_assoc, List.singleton_append, List.cons_append, List.nil_append]
    rw [sp_app 45 _ _ (itoa_ne a (by omega) 45 z), sp_app 45 _ _ (itoa_ne l (by omega) 45 z), sp_app 45 _ _ (itoa_ne r (by omega) 45 z), sp_one 45 _ (itoa_ne d (by omega) 45 z)]
  rw [chOf_yes _ _ _ _ _ hs, num_itoa a (by omega), num_itoa l (by omega), num_itoa r (by omega), num_itoa d (by omega), if_pos h]
theorem itoa_short (x : Int) (hx : 0 ≤ x ∧ x < 1000000) : (Go.Lib.itoa x).length ≤ 6 := by
  obtain ⟨n, rfl⟩ := Int.eq_ofNat_of_zero_le hx.1
  rw [itoa_nat]
  exact dec_len6 n 6 (by omega) (by omega)
theorem chase_len (a l r d : Int) (h : isCh a l r d) : (chaseTx a l r d).data.toList.length ≤ 100 := by
  have g := h
  unfold isCh at g
  have h1 := itoa_short a (by omega)
  have h2 := itoa_short l (by omega)
  have h3 := itoa_short r (by omega)
  have h4 := itoa_short d (by omega)
  unfold chaseTx
  rw [tx_data]
  simp only [List.length_append, List.length_cons, List.length_nil]
  omega
theorem parse_text (a l r d : Int) (h : isCh a l r d) (k : Nat) (hk : 1048590 < k) : impl_ParseChase.f k (chaseTx a l r d) = some (a, l, r, d, true) := by
  have n := chase_len a l r d h
  rw [impl_ParseChase_eq _ (by omega) k hk, chase_round a l r d h]
theorem dogRows_rows (a l r d : Int) (n : Nat) : ∀ x ∈ dogRows a l r d n, x.length ≤ 1000 := by
  intro x hx
  obtain ⟨j, _, rfl⟩ := List.mem_map.mp hx
  simp [dogRow]
theorem row_at (a l r d : Int) (n i : Nat) (hi : i < n) : rd_L2 (dogRows a l r d n) (i : Int) = dogRow a l r d (i + 1) := by simp [rd_L2, dogRows, hi]
theorem row_len (a l r d : Int) (k : Nat) : ((dogRow a l r d k).length : Int) = 4 := rfl
theorem row0 (a l r d : Int) (k : Nat) : rd (dogRow a l r d k) 0 = lowN (apT a l r d k) (apO l r d k) := rfl
theorem row1 (a l r d : Int) (k : Nat) : rd (dogRow a l r d k) 1 = lowD (apT a l r d k) (apO l r d k) := rfl
theorem row2 (a l r d : Int) (k : Nat) : rd (dogRow a l r d k) 2 = lowN (apP a l r d k) (apO l r d k) := rfl
theorem row3 (a l r d : Int) (k : Nat) : rd (dogRow a l r d k) 3 = lowD (apP a l r d k) (apO l r d k) := rfl
theorem small_turn {a l r d : Int} (h : isCh a l r d) (k : Nat) (hk : k ≤ 3) :
    (0 ≤ lowN (apT a l r d k) (apO l r d k) ∧ lowN (apT a l r d k) (apO l r d k) ≤ 64000000) ∧ (1 ≤ lowD (apT a l r d k) (apO l r d k) ∧ lowD (apT a l r d k) (apO l r d k) ≤ 64000) ∧
    (0 ≤ lowN (apP a l r d k) (apO l r d k) ∧ lowN (apP a l r d k) (apO l r d k) ≤ 64000000) ∧ (1 ≤ lowD (apP a l r d k) (apO l r d k) ∧ lowD (apP a l r d k) (apO l r d k) ≤ 64000) ∧
    (0 ≤ lowN (apA a l r d k) (apO l r d k) ∧ lowN (apA a l r d k) (apO l r d k) ≤ 64000000) ∧ (1 ≤ lowD (apA a l r d k) (apO l r d k) ∧ lowD (apA a l r d k) (apO l r d k) ≤ 64000) := by
  have o1 := apO_pos h k
  have o2 : apO l r d k ≤ 64000 := by
    have q := apO_le h
    obtain rfl | rfl | rfl | rfl : k = 0 ∨ k = 1 ∨ k = 2 ∨ k = 3 := by omega
    all_goals omega
  have t1 := apT_nonneg h k
  have t2 := apT_le h k
  have p1 := apP_range h k
  have a1 := apA_pos h k
  have a2 := apA_le h k
  have n1 := low_nonneg (a := apT a l r d k) (b := apO l r d k) t1 (by omega)
  have n2 := low_nonneg (a := apP a l r d k) (b := apO l r d k) p1.1 (by omega)
  have n3 := low_nonneg (a := apA a l r d k) (b := apO l r d k) (by omega) (by omega)
  have d1 := lowD_range (a := apT a l r d k) (b := apO l r d k) (by omega)
  have d2 := lowD_range (a := apP a l r d k) (b := apO l r d k) (by omega)
  have d3 := lowD_range (a := apA a l r d k) (b := apO l r d k) (by omega)
  refine ⟨⟨n1.1, by omega⟩, ⟨by omega, by omega⟩, ⟨n2.1, by omega⟩, ⟨by omega, by omega⟩, ⟨n3.1, by omega⟩, ⟨by omega, by omega⟩⟩
theorem rise_wrap {a l r d : Int} (h : isCh a l r d) (k : Nat) (hk : k ≤ 2) : ¬ wrap64 (lowN (apT a l r d k) (apO l r d k) * lowD (apT a l r d (k + 1)) (apO l r d (k + 1))) ≥ wrap64 (lowN (apT a l r d (k + 1)) (apO l r d (k + 1)) * lowD (apT a l r d k) (apO l r d k)) := by
  have z := turn_rise h k
  obtain ⟨x1, x2, _⟩ := small_turn h k (by omega)
  obtain ⟨y1, y2, _⟩ := small_turn h (k + 1) (by omega)
  have b1 := bm (A := 64000000) (B := 64000) x1 (show 0 ≤ lowD (apT a l r d (k + 1)) (apO l r d (k + 1)) ∧ lowD (apT a l r d (k + 1)) (apO l r d (k + 1)) ≤ 64000 by omega)
  have b2 := bm (A := 64000000) (B := 64000) y1 (show 0 ≤ lowD (apT a l r d k) (apO l r d k) ∧ lowD (apT a l r d k) (apO l r d k) ≤ 64000 by omega)
  rw [w64b b1 (by decide), w64b b2 (by decide)]
  exact Int.not_le.mpr z
theorem right_wrap {a l r d : Int} (h : isCh a l r d) (k : Nat) (hk : k ≤ 3) (e : ¬ k % 2 = 0) :
    wrap64 ((wrap64 (wrap64 (a * lowD (apT a l r d k) (apO l r d k)) - wrap64 (r * lowN (apT a l r d k) (apO l r d k)))) * lowD (apP a l r d k) (apO l r d k)) = wrap64 (lowN (apP a l r d k) (apO l r d k) * lowD (apT a l r d k) (apO l r d k)) := by
  have z := turn_right h k e
  obtain ⟨x1, x2, x3, x4, _⟩ := small_turn h k hk
  have g := h
  unfold isCh at g
  generalize lowN (apT a l r d k) (apO l r d k) = T at *
  generalize lowD (apT a l r d k) (apO l r d k) = O at *
  generalize lowN (apP a l r d k) (apO l r d k) = P at *
  generalize lowD (apP a l r d k) (apO l r d k) = V at *
  have b1 := bm (A := 1000) (B := 64000) (a := a) (b := O) (by omega) (by omega)
  have b2 := bm (A := 20) (B := 64000000) (a := r) (b := T) (by omega) x1
  rw [w64 (x := a * O) (by omega), w64 (x := r * T) (by omega), w64 (x := a * O - r * T) (by omega), z]
theorem left_wrap {a l r d : Int} (h : isCh a l r d) (k : Nat) (hk : k ≤ 3) (e : k % 2 = 0) :
    wrap64 (lowN (apP a l r d k) (apO l r d k) * lowD (apT a l r d k) (apO l r d k)) = wrap64 ((wrap64 (l * lowN (apT a l r d k) (apO l r d k))) * lowD (apP a l r d k) (apO l r d k)) := by
  have z := turn_left h k e
  obtain ⟨x1, x2, x3, x4, _⟩ := small_turn h k hk
  have g := h
  unfold isCh at g
  generalize lowN (apT a l r d k) (apO l r d k) = T at *
  generalize lowD (apT a l r d k) (apO l r d k) = O at *
  generalize lowN (apP a l r d k) (apO l r d k) = P at *
  generalize lowD (apP a l r d k) (apO l r d k) = V at *
  have b2 := bm (A := 20) (B := 64000000) (a := l) (b := T) (by omega) x1
  rw [w64 (x := l * T) (by omega), z]
theorem apart_wrap {a l r d : Int} (h : isCh a l r d) (k : Nat) (hk : k ≤ 3) :
    wrap64 (lowN (apA a l r d k) (apO l r d k) * lowD (apT a l r d k) (apO l r d k)) = wrap64 (lowD (apA a l r d k) (apO l r d k) * wrap64 (wrap64 (a * lowD (apT a l r d k) (apO l r d k)) - wrap64 (wrap64 (l + r) * lowN (apT a l r d k) (apO l r d k)))) := by
  have z := turn_apart h k
  obtain ⟨x1, x2, _⟩ := small_turn h k hk
  have g := h
  unfold isCh at g
  generalize lowN (apT a l r d k) (apO l r d k) = T at *
  generalize lowD (apT a l r d k) (apO l r d k) = O at *
  have b1 := bm (A := 1000) (B := 64000) (a := a) (b := O) (by omega) (by omega)
  have b2 := bm (A := 40) (B := 64000000) (a := l + r) (b := T) (by omega) x1
  rw [w64 (x := l + r) (by omega), w64 (x := a * O) (by omega), w64 (x := (l + r) * T) (by omega), w64 (x := a * O - (l + r) * T) (by omega), z]
theorem tm_one (i : Nat) (e : ¬ i % 2 = 0) : Int.tmod (i : Int) 2 = 1 := by
  rw [Int.tmod_eq_emod_of_nonneg (Int.natCast_nonneg i)]
  omega
theorem tm_not (i : Nat) (e : i % 2 = 0) : ¬ Int.tmod (i : Int) 2 = 1 := by
  rw [Int.tmod_eq_emod_of_nonneg (Int.natCast_nonneg i)]
  omega
theorem low_yes (a l r d : Int) (h : isCh a l r d) (k n : Nat) (hn : n ≤ 7) (hk : (1000000000000 : Int) < k) (x : Int) (hx : 0 ≤ x) : laws_yLow.f k (lowN x (apO l r d n)) (lowD x (apO l r d n)) = some true := by
  have o1 := apO_pos h n
  have o2 := apO_le7 h n hn
  exact yLow_low _ _ hx (by omega) k (by omega)
def bytes (c : List Int) : Prop := ∀ x ∈ c, (Lit.int .u8 x).wf = true
theorem byte_range {x : Int} (h : (Lit.int .u8 x).wf = true) : 0 ≤ x ∧ x ≤ 255 := by
  simp [Lit.wf, IntKind.min, IntKind.max, IntKind.bits, IntKind.signed] at h
  omega
theorem rd_byte (c : List Int) (hc : bytes c) (i : Int) (h0 : 0 ≤ i) (h1 : i < (c.length : Int)) : 0 ≤ rd c i ∧ rd c i ≤ 255 := by
  have hlt : i.toNat < c.length := by omega
  have e : rd c i = c[i.toNat] := by simp [rd, hlt]
  rw [e]
  exact byte_range (hc _ (List.getElem_mem hlt))
theorem bits_255 (x : Int) : 0 ≤ Go.bits .and .u64 x 255 ∧ Go.bits .and .u64 x 255 ≤ 255 := by
  have h : (BitVec.ofInt 64 x &&& 255#64).toNat ≤ 255 := by
    rw [BitVec.toNat_and]
    exact Nat.and_le_right
  have e : Go.bits .and .u64 x 255 = IntKind.u64.wrap ((BitVec.ofInt 64 x &&& 255#64).toNat : Int) := rfl
  rw [e]
  generalize (BitVec.ofInt 64 x &&& 255#64).toNat = n at *
  have e2 : IntKind.u64.wrap (n : Int) = (n : Int) := by
    simp [IntKind.wrap, IntKind.bits, IntKind.signed]
    omega
  rw [e2]
  omega
theorem next_ok (c : List Int) (hc : bytes c) (a s : Int) (ha : 0 ≤ a ∧ a ≤ 4000000000000000000) : ∃ r s', spec_l1Cur_next.f c a s = some (r, a + 1, s') ∧ 0 ≤ r ∧ r ≤ 255 := by
  have ew : wrap64 (a + 1) = a + 1 := w64 (by omega)
  unfold spec_l1Cur_next.f
  rw [ew]
  by_cases h : a < (c.length : Int)
  · have rb := rd_byte c hc a ha.1 h
    have er : wrap64 (rd c a) = rd c a := w64 (by omega)
    rw [if_pos h, if_pos ha.1, if_pos (by omega), er]
    exact ⟨_, _, rfl, rb.1, rb.2⟩
  · rw [if_neg h, if_neg (by omega)]
    have b := bits_255 ((IntKind.u64.wrap ((IntKind.u64.wrap ((IntKind.u64.wrap (s * 6364136223846793005)) + 0)) + 1442695040888963407)) / 1099511627776)
    refine ⟨_, _, rfl, ?_⟩
    rw [w64 (by omega)]
    exact b
theorem pick_ok (c : List Int) (hc : bytes c) (a s n : Int) (ha : 0 ≤ a ∧ a ≤ 4000000000000000000 - 2) : ∃ r a' s', spec_l1Cur_pick.f c a s n = some (r, a', s') ∧ 0 ≤ r ∧ (1 ≤ n → r < n) ∧ r ≤ 65535 ∧ a ≤ a' ∧ a' ≤ a + 2 := by
  unfold spec_l1Cur_pick.f
  by_cases h : n ≤ 1
  · rw [if_pos h]
    exact ⟨_, _, _, rfl, by omega, by omega, by omega, by omega, by omega⟩
  · rw [if_neg h]
    obtain ⟨r, s', e, r0, r1⟩ := next_ok c hc a s (by omega)
    rw [e]
    simp only [Option.bind_some]
    by_cases h2 : n > 200
    · rw [if_pos h2]
      obtain ⟨q, s2, e2, q0, q1⟩ := next_ok c hc (a + 1) s' (by omega)
      rw [e2]
      simp only [Option.bind_some]
      rw [if_neg (by omega), w64 (x := r * 256) (by omega), w64 (x := r * 256 + q) (by omega), Int.tmod_eq_emod_of_nonneg (by omega)]
      have := Int.emod_nonneg (r * 256 + q) (show n ≠ 0 by omega)
      have := Int.emod_lt_of_pos (r * 256 + q) (show 0 < n by omega)
      have e3 := Int.emod_def (r * 256 + q) n
      have e4 := Int.mul_nonneg (show 0 ≤ n by omega) (Int.ediv_nonneg (show 0 ≤ r * 256 + q by omega) (show 0 ≤ n by omega))
      exact ⟨_, _, _, rfl, by omega, by omega, by omega, by omega, by omega⟩
    · rw [if_neg h2, if_neg (by omega), Int.tmod_eq_emod_of_nonneg (by omega)]
      have := Int.emod_nonneg r (show n ≠ 0 by omega)
      have := Int.emod_lt_of_pos r (show 0 < n by omega)
      exact ⟨_, _, _, rfl, by omega, by omega, by omega, by omega, by omega⟩
theorem among_ok (c : List Int) (hc : bytes c) (a s : Int) (l : List Int) (hl : 1 ≤ l.length ∧ l.length ≤ 1000000) (ha : 0 ≤ a ∧ a ≤ 4000000000000000000 - 2) : ∃ r a' s', spec_l1Cur_among.f c a s l = some (r, a', s') ∧ r ∈ l ∧ a ≤ a' ∧ a' ≤ a + 2 := by
  obtain ⟨r, a', s', e, r0, r1, _, h⟩ := pick_ok c hc a s (l.length : Int) ha
  have r2 := r1 (by omega)
  have hlt : r.toNat < l.length := by omega
  have er : rd l r = l[r.toNat] := by simp [rd, hlt]
  unfold spec_l1Cur_among.f
  rw [e]
  simp only [Option.bind_some]
  rw [if_pos r0, if_pos r2, er]
  exact ⟨_, _, _, rfl, List.getElem_mem hlt, h⟩
theorem wrap_range (x : Int) : -9223372036854775808 ≤ wrap64 x ∧ wrap64 x ≤ 9223372036854775807 := by unfold wrap64; omega
theorem sureChase_ok (c : List Int) (hc : bytes c) (a s : Int) (ha : 0 ≤ a ∧ a ≤ 4000000000000000000 - 8) : ∃ A L R D a' s', spec_l1Cur_sureChase.f c a s = some (A, L, R, D, a', s') ∧ (0 ≤ L ∧ L ≤ 100000) ∧ (-9223372036854775808 ≤ D ∧ D ≤ 9223372036854775807) ∧ a ≤ a' ∧ a' ≤ a + 8 := by
  obtain ⟨r1, a1, s1, e1, _, _, _, h1⟩ := pick_ok c hc a s 60 (by omega)
  obtain ⟨r2, a2, s2, e2, p2, _, q2, h2⟩ := pick_ok c hc a1 s1 5 (by omega)
  obtain ⟨r3, a3, s3, e3, p3, _, q3, h3⟩ := pick_ok c hc a2 s2 5 (by omega)
  obtain ⟨r4, a4, s4, e4, p4, _, q4, h4⟩ := pick_ok c hc a3 s3 5 (by omega)
  unfold spec_l1Cur_sureChase.f
  rw [e1]
  simp only [Option.bind_some]
  rw [e2]
  simp only [Option.bind_some]
  rw [e3]
  simp only [Option.bind_some, spec_l1Most_eq, e4]
  split
  · exact ⟨_, _, _, _, _, _, rfl, by omega, wrap_range _, by omega, by omega⟩
  · exact ⟨_, _, _, _, _, _, rfl, by omega, wrap_range _, by omega, by omega⟩
theorem chase_ok (c : List Int) (hc : bytes c) (a s : Int) (ha : 0 ≤ a ∧ a ≤ 4000000000000000000 - 12) : ∃ A L R D a' s', spec_l1Cur_chase.f c a s = some (A, L, R, D, a', s') ∧ (-9223372036854775808 ≤ D ∧ D ≤ 9223372036854775807) ∧ a ≤ a' ∧ a' ≤ a + 12 := by
  obtain ⟨A, L, R, D, a1, s1, e1, hL, hD, h1⟩ := sureChase_ok c hc a s (by omega)
  obtain ⟨r2, a2, s2, e2, _, _, _, h2⟩ := pick_ok c hc a1 s1 16 (by omega)
  unfold spec_l1Cur_chase.f
  rw [e1]
  simp only [Option.bind_some]
  rw [e2]
  simp only [Option.bind_some]
  split
  · obtain ⟨q, a3, s3, e3, _, h3⟩ := among_ok c hc a2 s2 [0, (-1), 1000, 1001, 4611686018427387904] (by decide) (by omega)
    rw [e3]
    simp only [Option.bind_some]
    exact ⟨_, _, _, _, _, _, rfl, hD, by omega, by omega⟩
  · split
    · obtain ⟨q, a3, s3, e3, m3, h3⟩ := among_ok c hc a2 s2 [0, L, 20, 21, 4611686018427387904] (by simp) (by omega)
      rw [e3]
      simp only [Option.bind_some]
      refine ⟨_, _, _, _, _, _, rfl, ?_, by omega, by omega⟩
      simp only [List.mem_cons, List.not_mem_nil, or_false] at m3
      rcases m3 with rfl | rfl | rfl | rfl | rfl <;> omega
    · split
      · obtain ⟨q, a3, s3, e3, _, h3⟩ := among_ok c hc a2 s2 [(-1), 0, 20, 19] (by decide) (by omega)
        rw [e3]
        simp only [Option.bind_some]
        exact ⟨_, _, _, _, _, _, rfl, hD, by omega, by omega⟩
      · exact ⟨_, _, _, _, _, _, rfl, hD, by omega, by omega⟩
theorem drawTurns_ok (c : List Int) (hc : bytes c) : ∃ A L R D t, spec_DrawDogTurns.f c = some (A, L, R, D, t) ∧ (-9223372036854775808 ≤ D ∧ D ≤ 9223372036854775807) := by
  obtain ⟨A, L, R, D, a1, s1, e1, hD, h1⟩ := chase_ok c hc 0 0 (by omega)
  obtain ⟨q, a3, s3, e3, _, h3⟩ := among_ok c hc a1 s1 [1, 2, 3, 4, 6, 7, 0, (-1)] (by decide) (by omega)
  unfold spec_DrawDogTurns.f
  rw [e1]
  simp only [Option.bind_some]
  rw [e3]
  exact ⟨_, _, _, _, _, rfl, hD⟩
theorem drawRatio_ok (c : List Int) (hc : bytes c) : ∃ A L R D, spec_DrawRatioOfTurns.f c = some (A, L, R, D) ∧ (-9223372036854775808 ≤ D ∧ D ≤ 9223372036854775807) := by
  obtain ⟨A, L, R, D, a1, s1, e1, hD, h1⟩ := chase_ok c hc 0 0 (by omega)
  unfold spec_DrawRatioOfTurns.f spec_DrawIsChase.f
  rw [e1]
  exact ⟨_, _, _, _, rfl, hD⟩
/-- behind the row i: the walk over the rows goes on -/
theorem J4 (a l r d : Int) (h : isCh a l r d) (n : Nat) (m : List Int) (i : Nat) (hi : i < n) (hi2 : i ≤ 2) (k : Nat) (hk : (1000000000000001 : Int) < k) :
    laws_FnDogsTurn.j4 (k + 1) m (n : Int) (dogRows a l r d n) (i : Int) (dogRows a l r d n) ((dogRows a l r d n).length : Int) (i : Int) false a l r d =
    laws_FnDogsTurn.l0 k m (n : Int) (dogRows a l r d n) (dogRows a l r d n) ((dogRows a l r d n).length : Int) ((i + 1 : Nat) : Int) a l r d := by
  have e1 : wrap64 ((i : Int) + 1) = ((i + 1 : Nat) : Int) := by rw [w64 (by omega)]; rfl
  have e2 := (apart_yes a l r d h (i + 1) (by omega) k hk).2
  have e3 := apart_wrap h (i + 1) (by omega)
  simp only [laws_FnDogsTurn.j4, Bool.false_eq_true, if_false, row_at a l r d n i hi, row_len, row0, row1, e1, e2, Option.bind_some, if_true]
  rw [if_pos (by decide), if_pos (by decide), if_pos e3]
theorem J3 (a l r d : Int) (h : isCh a l r d) (n : Nat) (m : List Int) (i : Nat) (hi : i < n) (hn : n ≤ 6) (k : Nat) (hk : (1000000000000001 : Int) < k) :
    laws_FnDogsTurn.j3 (k + 1 + 1) m (n : Int) (dogRows a l r d n) (i : Int) (dogRows a l r d n) ((dogRows a l r d n).length : Int) (i : Int) false a l r d =
    laws_FnDogsTurn.l0 (if (i : Int) > 2 then k + 1 else k) m (n : Int) (dogRows a l r d n) (dogRows a l r d n) ((dogRows a l r d n).length : Int) ((i + 1 : Nat) : Int) a l r d := by
  have e1 : wrap64 ((i : Int) + 1) = ((i + 1 : Nat) : Int) := by rw [w64 (by omega)]; rfl
  have d0 : (0 : Int) < 4 := by decide
  have d1 : (1 : Int) < 4 := by decide
  have d2 : (2 : Int) < 4 := by decide
  have d3 : (3 : Int) < 4 := by decide
  simp only [laws_FnDogsTurn.j3, Bool.false_eq_true, if_false, row_at a l r d n i hi, row_len, row0, row1, row2, row3, e1, d0, d1, d2, d3, if_true]
  by_cases h2 : (i : Int) > 2
  · rw [if_pos h2, if_pos h2]
  · rw [if_neg h2, if_neg h2]
    have j4 := J4 a l r d h n m i hi (by omega) k hk
    by_cases e : i % 2 = 0
    · have rw_ := right_wrap h (i + 1) (by omega) (par_up i e)
      rw [if_pos (tm_yes i e), if_pos rw_, if_neg (tm_not i e)]
      exact j4
    · have lw := left_wrap h (i + 1) (by omega) (par_down i e)
      have eb : (!(wrap64 (lowN (apP a l r d (i + 1)) (apO l r d (i + 1)) * lowD (apT a l r d (i + 1)) (apO l r d (i + 1))) == wrap64 (wrap64 (l * lowN (apT a l r d (i + 1)) (apO l r d (i + 1))) * lowD (apP a l r d (i + 1)) (apO l r d (i + 1))))) = false := by
        rw [lw, beq_self_eq_true]
        rfl
      rw [if_neg (tm_no i e), if_pos (tm_one i e), eb]
      exact j4
theorem L0 (a l r d : Int) (h : isCh a l r d) (n : Nat) (hn : n ≤ 6) (m : List Int) (K : Nat) (hK : (1000000000000002 : Int) < K) (next : ∀ k, K < k → laws_FnDogsTurn.j5 k m = some true) (q : Nat) : ∀ (k i : Nat), i + q = n → K + 3 * q + 1 < k →
    laws_FnDogsTurn.l0 k m (n : Int) (dogRows a l r d n) (dogRows a l r d n) ((dogRows a l r d n).length : Int) (i : Int) a l r d = some true := by
  have hlen := dogRows_length a l r d n
  induction q with
  | zero =>
    intro k i hi hk
    obtain ⟨k, rfl⟩ : ∃ m, k = m + 1 := ⟨k - 1, by omega⟩
    simp only [laws_FnDogsTurn.l0]
    rw [if_neg (by omega)]
    exact next k (by omega)
  | succ q ih =>
    intro k i hi hk
    obtain ⟨k, rfl⟩ : ∃ m, k = m + 1 + 1 + 1 := ⟨k - 3, by omega⟩
    have hlt : i < n := by omega
    have d0 : (0 : Int) < 4 := by decide
    have d1 : (1 : Int) < 4 := by decide
    have d2 : (2 : Int) < 4 := by decide
    have d3 : (3 : Int) < 4 := by decide
    have y1 := low_yes a l r d h (k + 1 + 1) (i + 1) (by omega) (by omega) (apT a l r d (i + 1)) (apT_nonneg h (i + 1))
    have y2 := low_yes a l r d h (k + 1 + 1) (i + 1) (by omega) (by omega) (apP a l r d (i + 1)) (apP_range h (i + 1)).1
    have go : laws_FnDogsTurn.j3 (k + 1 + 1) m (n : Int) (dogRows a l r d n) (i : Int) (dogRows a l r d n) ((dogRows a l r d n).length : Int) (i : Int) false a l r d = some true := by
      rw [J3 a l r d h n m i hlt hn k (by omega)]
      exact ih _ (i + 1) (by omega) (by split <;> omega)
    simp only [laws_FnDogsTurn.l0, row_at a l r d n i hlt, row_len, row0, row1, row2, row3, d0, d1, d2, d3, if_true, y1, y2, Option.bind_some]
    rw [if_pos (by omega), if_pos (by omega), if_pos (by omega)]
    by_cases h0 : (i : Int) > 0
    · obtain ⟨j, rfl⟩ : ∃ j, i = j + 1 := ⟨i - 1, by omega⟩
      have ej : wrap64 (((j + 1 : Nat) : Int) - 1) = (j : Int) := by rw [w64 (by omega)]; omega
      rw [if_pos h0, ej, row_at a l r d n j (by omega), row_len, row0, row1]
      simp only [d0, d1, if_true]
      rw [if_pos (by omega), if_pos (by omega)]
      by_cases h3 : (n : Int) ≤ 3
      · rw [if_neg (rise_wrap h (j + 1) (by omega))]
        exact go
      · rw [decide_eq_false h3]
        split
        · exact go
        · exact go
    · rw [if_neg h0]
      exact go
theorem J6 (a l r d : Int) (h : isCh a l r d) (k : Nat) (hk : (1000000000000002 : Int) < k) :
    laws_FnDogsTurn.j6 k (lowN (d - l) (d + r)) (lowD (d - l) (d + r)) (lowN (d - r) (d + l)) (lowD (d - r) (d + l)) true (lowN a (l + r)) (lowD a (l + r)) (lowN (a * d) (l + r)) (lowD (a * d) (l + r)) (lowN (a * l) (l + r)) (lowD (a * l) (l + r)) (lowN (a * r) (l + r)) (lowD (a * r) (l + r)) (chaseTx a l r d) false a l r d a r l d = some true := by
  obtain ⟨k, rfl⟩ : ∃ m, k = m + 1 := ⟨k - 1, by omega⟩
  have g := h
  unfold isCh at g
  have hr : isCh a r l d := by unfold isCh; omega
  have e1 := (apart_yes a l r d h 1 (by omega) k (by omega)).2
  have e2 := (apart_yes a l r d h 2 (by omega) k (by omega)).2
  have e3 := parse_text a l r d h k (by omega)
  have e4 := (turned_yes a r l d hr).2
  have y1 := yLow_low (d - l) (d + r) (by omega) (by omega) k (by omega)
  have y2 := yLow_low (d - r) (d + l) (by omega) (by omega) k (by omega)
  have f1 := first_part h
  have f2 := second_part h
  have f3 := far_part a d (l + r) (by omega)
  have f4 := low_cross a (l + r)
  have f5 := ways_part a l r (by omega)
  obtain ⟨_, _, _, _, s1, s2⟩ := small_turn h 1 (by omega)
  obtain ⟨_, _, _, _, s3, s4⟩ := small_turn h 2 (by omega)
  have r1 := low_nonneg (a := d - l) (b := d + r) (by omega) (by omega)
  have r2 := lowD_range (a := d - l) (b := d + r) (by omega)
  have r3 := low_nonneg (a := d - r) (b := d + l) (by omega) (by omega)
  have r4 := lowD_range (a := d - r) (b := d + l) (by omega)
  have m1 := bm (A := 1000) (B := 20) (a := a) (b := l) (by omega) (by omega)
  have m2 := bm (A := 1000) (B := 20) (a := a) (b := r) (by omega) (by omega)
  have m3 := bm (A := 1000) (B := 20) (a := a) (b := d) (by omega) (by omega)
  have r5 := low_nonneg (a := a * l) (b := l + r) (by omega) (by omega)
  have r6 := lowD_range (a := a * l) (b := l + r) (by omega)
  have r7 := low_nonneg (a := a * r) (b := l + r) (by omega) (by omega)
  have r8 := lowD_range (a := a * r) (b := l + r) (by omega)
  have r9 := low_nonneg (a := a * d) (b := l + r) (by omega) (by omega)
  have r10 := lowD_range (a := a * d) (b := l + r) (by omega)
  have r11 := low_nonneg (a := a) (b := l + r) (by omega) (by omega)
  have r12 := lowD_range (a := a) (b := l + r) (by omega)
  have c1 : ((1 : Nat) : Int) = 1 := rfl
  have c2 : ((2 : Nat) : Int) = 2 := rfl
  rw [c1] at e1
  rw [c2] at e2
  simp only [laws_FnDogsTurn.j6, Bool.false_eq_true, if_false, if_true, e1, e2, e3, e4, y1, y2, Option.bind_some, beq_self_eq_true, Bool.not_true, Bool.or_false]
  clear e1 e2 e3 e4 y1 y2 hk
  generalize lowN (apA a l r d 1) (apO l r d 1) = F at *
  generalize lowD (apA a l r d 1) (apO l r d 1) = B at *
  generalize lowN (apA a l r d 2) (apO l r d 2) = S at *
  generalize lowD (apA a l r d 2) (apO l r d 2) = E at *
  generalize lowN (d - l) (d + r) = p at *
  generalize lowD (d - l) (d + r) = q at *
  generalize lowN (d - r) (d + l) = u at *
  generalize lowD (d - r) (d + l) = v at *
  generalize lowN (a * l) (l + r) = x1 at *
  generalize lowD (a * l) (l + r) = x2 at *
  generalize lowN (a * r) (l + r) = x3 at *
  generalize lowD (a * r) (l + r) = x4 at *
  generalize lowN (a * d) (l + r) = x5 at *
  generalize lowD (a * d) (l + r) = x6 at *
  generalize lowN a (l + r) = x7 at *
  generalize lowD a (l + r) = x8 at *
  have b1 := bm (A := 64000) (B := 40) (a := B) (b := p) (by omega) (by omega)
  have b2 := bm (A := 64000000) (B := 40) (a := S) (b := v) (by omega) (by omega)
  have b3 := bm (A := 64000) (B := 64000000) (a := E) (b := F) (by omega) (by omega)
  have b4 := bm (A := 40) (B := 1000) (a := x6) (b := x7) (by omega) (by omega)
  have b5 := bm (A := 20000) (B := 40) (a := x1) (b := x4) (by omega) (by omega)
  have b6 := bm (A := 20000) (B := 40) (a := x3) (b := x2) (by omega) (by omega)
  have b7 := bm (A := 1000) (B := 40) (a := a) (b := x2) (by omega) (by omega)
  rw [w64 (x := B * p) (by omega), w64 (x := S * v) (by omega), w64 (x := E * F) (by omega), w64 (x := x6 * x7) (by omega), w64 (x := x1 * x4) (by omega), w64 (x := x3 * x2) (by omega), w64 (x := a * x2) (by omega), w64 (x := l + r) (by omega),
    f1, if_pos rfl, f2, if_pos rfl, f3, if_pos rfl, f4, Int.mul_comm a x8, if_pos rfl, f5, if_pos rfl]
theorem J5 (m : List Int) (hm : bytes m) (k : Nat) (hk : (1000000000000003 : Int) < k) : laws_FnDogsTurn.j5 k m = some true := by
  obtain ⟨k, rfl⟩ : ∃ m, k = m + 1 := ⟨k - 1, by omega⟩
  obtain ⟨a, l, r, d, ed, wd⟩ := drawRatio_ok m hm
  by_cases h : isCh a l r d
  · obtain ⟨a1, a2⟩ := ratio_yes a l r d h k (by omega)
    obtain ⟨b1, b2⟩ := meet_yes a l r d h k (by omega)
    obtain ⟨c1, c2⟩ := far_yes a l r d h k (by omega)
    obtain ⟨d1, d2⟩ := ways_yes a l r d h k (by omega)
    obtain ⟨e1, e2⟩ := turned_yes a l r d h
    have t1 := spec_ChaseText_yes a l r d h k (by omega)
    have t2 := impl_ChaseText_yes a l r d h k (by omega)
    have i1 := impl_IsChase_yes a l r d h
    have j6 := J6 a l r d h k (by omega)
    simp only [laws_FnDogsTurn.j5, ed, a1, a2, b1, b2, c1, c2, d1, d2, e1, e2, t1, t2, i1, Option.bind_some, bne_self_eq_false, beq_self_eq_true, Bool.not_true, Bool.or_false, Bool.false_eq_true, if_false, if_true]
    exact j6
  · obtain ⟨⟨a1, a2⟩, ⟨b1, b2⟩, ⟨c1, c2⟩, ⟨d1, d2⟩, e1, e2⟩ := parts_no a l r d wd h k
    have t1 := spec_ChaseText_no a l r d wd h k
    have t2 := impl_ChaseText_no a l r d h k
    have i1 := impl_IsChase_no a l r d h
    obtain ⟨k, rfl⟩ : ∃ m, k = m + 1 := ⟨k - 1, by omega⟩
    simp only [laws_FnDogsTurn.j5, ed, a1, a2, b1, b2, c1, c2, d1, d2, e1, e2, t1, t2, i1, Option.bind_some, bne_self_eq_false, beq_self_eq_true, Bool.not_true, Bool.or_false, Bool.false_eq_true, if_false, if_true, laws_FnDogsTurn.j6]
theorem holds : ∀ (l0 : List Int) (l1 : List Int), l0.length ≤ maxLen → l0.length * 1 ≤ 140737488351232 → (∀ x ∈ l0, (Lit.int .u8 x).wf = true) → l1.length ≤ maxLen → l1.length * 1 ≤ 140737488351232 → (∀ x ∈ l1, (Lit.int .u8 x).wf = true) → ∃ k, laws_FnDogsTurn.f k l0 l1 = some true := by
  intro c m _ _ hc _ _ hm
  obtain ⟨k, hk⟩ : ∃ k : Nat, (1000000000000000100 : Int) < k := ⟨1000000000000000101, by decide⟩
  refine ⟨k + 1 + 1, ?_⟩
  have j5 : ∀ q, (1000000000000003 : Int) < (q : Nat) → laws_FnDogsTurn.j5 q m = some true := fun q hq => J5 m hm q hq
  unfold laws_FnDogsTurn.f
  obtain ⟨g, eg⟩ : ∃ g, laws_big.f c m = some g := by
    unfold laws_big.f
    split <;> exact ⟨_, rfl⟩
  rw [eg]
  simp only [Option.bind_some]
  by_cases hg : g = true
  · rw [if_pos hg]
  rw [if_neg hg]
  obtain ⟨a, l, r, d, t, ed, bd⟩ := drawTurns_ok c hc
  rw [ed]
  simp only [Option.bind_some]
  by_cases h : isCh a l r d ∧ 1 ≤ t ∧ t ≤ 6
  · obtain ⟨h, ht⟩ := h
    obtain ⟨n, rfl⟩ := Int.eq_ofNat_of_zero_le (show 0 ≤ t by omega)
    have hn : 1 ≤ n ∧ n ≤ 6 := by omega
    have s1 := spec_DogTurns_yes a l r d h n hn (k + 1 + 1) (by omega)
    have s2 := impl_DogTurns_yes a l r d h n hn (k + 1 + 1) (by omega)
    obtain ⟨p1, p2⟩ := apart_yes a l r d h n hn (k + 1 + 1) (by omega)
    obtain ⟨q1, q2⟩ := right_yes a l r d h n hn (k + 1 + 1) (by omega)
    have yr := yRows_eq (dogRows a l r d n) (by rw [dogRows_length]; omega) (dogRows_rows a l r d n) (k + 1 + 1) (by omega)
    have i1 := impl_IsChase_yes a l r d h
    have i2 := spec_IsChase_yes a l r d h
    have g := h
    unfold isCh at g
    have o1 := apO_pos h n
    have a1 := apA_pos h n
    have qr := apQ_range h n
    have y1 := low_yes a l r d h (k + 1) n (by omega) (by omega) (apA a l r d n) (by omega)
    have y2 := low_yes a l r d h (k + 1) n (by omega) (by omega) (d * apQ a l r d n) (Int.mul_nonneg (by omega) qr.1)
    have hlen := dogRows_length a l r d n
    have one : ¬ lowN (apA a l r d n) (apO l r d n) < 1 := by
      have cc := low_cross (apA a l r d n) (apO l r d n)
      have dd := lowD_range (a := apA a l r d n) (b := apO l r d n) (by omega)
      have nn := low_nonneg (a := apA a l r d n) (b := apO l r d n) (by omega) (by omega)
      intro z
      have z0 : lowN (apA a l r d n) (apO l r d n) = 0 := by omega
      rw [z0, Int.zero_mul] at cc
      have := Int.mul_pos (show 0 < apA a l r d n by omega) (show 0 < lowD (apA a l r d n) (apO l r d n) by omega)
      omega
    have l0 := L0 a l r d h n hn.2 m 1000000000000003 (by decide) (fun m hm => j5 m (by omega)) n k 0 (by omega) (by omega)
    simp only [s1, s2, p1, p2, q1, q2, yr, i1, i2, Option.bind_some, bne_self_eq_false, beq_self_eq_true, Bool.not_true, Bool.or_false, Bool.false_eq_true, if_false, if_true, laws_FnDogsTurn.j0, y1, y2]
    rw [if_pos (by rw [hlen]), if_neg one]
    simp only [laws_FnDogsTurn.j1, Bool.false_eq_true, if_false]
    exact l0
  · have s1 := spec_DogTurns_no a l r d t bd h (k + 1 + 1)
    have s2 := impl_DogTurns_no a l r d t h (k + 1 + 1) (by omega)
    obtain ⟨p1, p2⟩ := apart_no a l r d t bd h (k + 1 + 1) (by omega)
    obtain ⟨q1, q2⟩ := right_no a l r d t bd h (k + 1 + 1) (by omega)
    have yr : laws_yRows.f (k + 1 + 1) [] [] = some true := yRows_eq [] (by simp) (by simp) (k + 1 + 1) (by omega)
    have i : ∃ b, impl_IsChase.f a l r d = some b ∧ spec_IsChase.f a l r d = some b := by
      by_cases g : isCh a l r d
      · exact ⟨true, impl_IsChase_yes a l r d g, spec_IsChase_yes a l r d g⟩
      · exact ⟨false, impl_IsChase_no a l r d g, spec_IsChase_no a l r d bd g⟩
    obtain ⟨b, i1, i2⟩ := i
    simp only [s1, s2, p1, p2, q1, q2, yr, i1, i2, Option.bind_some, bne_self_eq_false, beq_self_eq_true, Bool.not_true, Bool.or_false, Bool.false_eq_true, if_false, if_true, laws_FnDogsTurn.j0]
    exact j5 _ (by omega)

end Go.Proofs.YtajlcomankjcjabGreatDoor.QFnDogsTurn
