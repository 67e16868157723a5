/- The law FnExactWinnerOfLaps in plain Lean, over the printed functions: it returns true for every input (no condition). -/
import Derived.Test.YtkehnndlladnlaaPFnExactWinnerOfLapsx4
import Derived.OpenShut
namespace Go.Proofs.Ytkehnndlladnlaa.QFnExactWinnerOfLaps
open Go.RowKit Go.ChangeShapes Go.WideShapes Go.Proofs.Ytkehnndlladnlaa.PFnExactWinnerOfLaps Go.Proofs.YtkehnndlladnlaaW.PrintWords Go.Proofs.YtkehnndlladnlaaW.PrintLast Go.Proofs.YtkehnndlladnlaaW.PrintMore
set_option linter.unusedVariables false
set_option linter.unusedSimpArgs false
theorem w64 {x : Int} (h : -9223372036854775808 ≤ x ∧ x ≤ 9223372036854775807) : wrap64 x = x := by unfold wrap64; omega
theorem bm {a b A B : Int} (ha : 0 ≤ a ∧ a ≤ A) (hb : 0 ≤ b ∧ b ≤ B) : 0 ≤ a * b ∧ a * b ≤ A * B :=
  ⟨Int.mul_nonneg ha.1 hb.1, Int.mul_le_mul ha.2 hb.2 hb.1 (Int.le_trans ha.1 ha.2)⟩
theorem gcd_step (a b : Int) (ha : 0 ≤ a) (hb : 0 ≤ b) : Int.gcd b (a.tmod b) = Int.gcd a b := by
  obtain ⟨m, rfl⟩ := Int.eq_ofNat_of_zero_le ha
  obtain ⟨n, rfl⟩ := Int.eq_ofNat_of_zero_le hb
  rw [← Int.ofNat_tmod]
  show Nat.gcd n (m % n) = Nat.gcd m n
  rw [Nat.gcd_comm n, ← Nat.gcd_rec, Nat.gcd_comm]
def lowN (a b : Int) : Int := a / (Int.gcd a b : Int)
def lowD (a b : Int) : Int := b / (Int.gcd a b : Int)
theorem gpos {a b : Int} (hb : 0 < b) : 0 < (Int.gcd a b : Int) := by
  have := Int.gcd_pos_of_ne_zero_right a (show b ≠ 0 by omega)
  omega
theorem gle {a b : Int} (hb : 0 < b) : (Int.gcd a b : Int) ≤ b := Int.le_of_dvd hb (Int.gcd_dvd_right a b)
theorem tdiv_gcd_l (a b : Int) : a.tdiv (Int.gcd a b) = lowN a b := by
  unfold lowN
  exact (Int.tdiv_eq_ediv_of_dvd (Int.gcd_dvd_left a b))
theorem tdiv_gcd_r (a b : Int) : b.tdiv (Int.gcd a b) = lowD a b := by
  unfold lowD
  exact (Int.tdiv_eq_ediv_of_dvd (Int.gcd_dvd_right a b))
theorem low_range {a b M : Int} (hb : 0 < b) (ha : -M ≤ a ∧ a ≤ M) : -M ≤ lowN a b ∧ lowN a b ≤ M := by
  unfold lowN
  have g := gpos (a := a) hb
  have hM : 0 ≤ M := by omega
  have e := Int.ediv_mul_cancel (Int.gcd_dvd_left a b)
  constructor
  · apply Int.le_ediv_of_mul_le g
    have : -M * (Int.gcd a b : Int) ≤ -M * 1 := Int.mul_le_mul_of_nonpos_left (by omega) (by omega)
    omega
  · rcases Int.le_total 0 a with h | h
    · have := Int.ediv_le_self (Int.gcd a b : Int) h
      omega
    · have := Int.ediv_le_ediv g h
      rw [Int.zero_ediv] at this
      omega
theorem lowD_range {a b : Int} (hb : 0 < b) : 1 ≤ lowD a b ∧ lowD a b ≤ b := by
  unfold lowD
  have g := gpos (a := a) hb
  constructor
  · apply Int.le_ediv_of_mul_le g
    have := gle (a := a) hb
    omega
  · exact Int.ediv_le_self _ (by omega)
theorem bms {a b A B : Int} (ha : -A ≤ a ∧ a ≤ A) (hb : 0 ≤ b ∧ b ≤ B) : -(A * B) ≤ a * b ∧ a * b ≤ A * B := by
  have hA : 0 ≤ A := by omega
  rcases Int.le_total 0 a with h | h
  · have := bm ⟨h, ha.2⟩ hb
    have := Int.mul_nonneg hA (Int.le_trans hb.1 hb.2)
    omega
  · have := bm (a := -a) (A := A) ⟨by omega, by omega⟩ hb
    have e : -a * b = -(a * b) := Int.neg_mul a b
    omega
theorem low_scale (a b c : Int) (hc : 0 < c) : lowN (a * c) (b * c) = lowN a b ∧ lowD (a * c) (b * c) = lowD a b := by
  have e : (Int.gcd (a * c) (b * c) : Int) = (Int.gcd a b : Int) * c := by
    rw [Int.gcd_mul_right]
    have : (c.natAbs : Int) = c := by omega
    rw [Int.natCast_mul, this]
  unfold lowN lowD
  rw [e]
  exact ⟨Int.mul_ediv_mul_of_pos_left a _ hc, Int.mul_ediv_mul_of_pos_left b _ hc⟩
theorem w64b {x B : Int} (h : 0 ≤ x ∧ x ≤ B) (hB : B ≤ 9223372036854775807) : wrap64 x = x := w64 ⟨Int.le_trans (by decide) h.1, Int.le_trans h.2 hB⟩
theorem ad {x y A B : Int} (hx : 0 ≤ x ∧ x ≤ A) (hy : 0 ≤ y ∧ y ≤ B) : 0 ≤ x + y ∧ x + y ≤ A + B := ⟨Int.add_nonneg hx.1 hy.1, Int.add_le_add hx.2 hy.2⟩

theorem laws_szRunnerS_eq (l : List S23) (hl : l.length ≤ 9223372036854775807) : laws_szRunnerS.f l 1048576 = some (if 1048576 < l.length then -1 else 1048576 - (l.length : Int)) := by
  unfold laws_szRunnerS.f
  rw [w64 (by omega)]
  by_cases h : 1048576 < l.length
  · rw [if_pos h, if_pos (by omega)]
  · rw [if_neg h, if_neg (by omega)]

/-- the list as the program has it -/
def conv (l : List S23) : List S26 := l.map fun x => ⟨x.f0, x.f1⟩
theorem conv_length (l : List S23) : (conv l).length = l.length := by simp [conv]
theorem conv_rd (l : List S23) (i : Nat) (h : i < l.length) : (⟨(rd_T23 l (i : Int)).f0, (rd_T23 l (i : Int)).f1⟩ : S26) = (conv l)[i]'(by rw [conv_length]; exact h) := by
  simp [rd_T23, conv, h]
theorem laws_toRunnerS_l0 (l : List S23) (hl : l.length ≤ 1000000000) (d : Nat) : ∀ (k i : Nat), i + d = l.length → d < k →
    laws_toRunnerS.l0 k l ((conv l).take i ++ List.replicate d z26) (i : Int) = some (conv l) := by
  induction d with
  | zero =>
    intro k i hi hk
    obtain ⟨k, rfl⟩ : ∃ m, k = m + 1 := ⟨k - 1, by omega⟩
    simp only [laws_toRunnerS.l0]
    rw [if_neg (by omega), List.take_of_length_le (by rw [conv_length]; omega)]
    simp
  | succ d ih =>
    intro k i hi hk
    obtain ⟨k, rfl⟩ : ∃ m, k = m + 1 := ⟨k - 1, by omega⟩
    have hlt : i < l.length := by omega
    have hlc : i < (conv l).length := by rw [conv_length]; exact hlt
    have hlen : ((conv l).take i ++ List.replicate (d + 1) z26).length = l.length := by
      rw [List.length_append, List.length_take, List.length_replicate, conv_length]
      omega
    have e1 : wrap64 ((i : Int) + 1) = ((i + 1 : Nat) : Int) := by rw [w64 (by omega)]; rfl
    simp only [laws_toRunnerS.l0, laws_toRunner.f, Option.bind_some]
    rw [if_pos (by omega), if_pos (by omega), hlen, if_pos (by omega), e1]
    have es : ((conv l).take i ++ List.replicate (d + 1) z26).set (i : Int).toNat ⟨(rd_T23 l (i : Int)).f0, (rd_T23 l (i : Int)).f1⟩ = (conv l).take (i + 1) ++ List.replicate d z26 := by
      rw [Int.toNat_natCast, conv_rd l i hlt, List.set_append_right _ _ (by rw [List.length_take]; omega), List.length_take, Nat.min_eq_left (by omega), Nat.sub_self, List.replicate_succ, List.set_cons_zero, List.take_succ_eq_append_getElem hlc, List.append_assoc]
      rfl
    rw [es]
    exact ih k (i + 1) (by omega) (by omega)
theorem laws_toRunnerS_eq (l : List S23) (hl : l.length ≤ 1000000000) (k : Nat) (hk : l.length < k) : laws_toRunnerS.f k l = some (conv l) := by
  unfold laws_toRunnerS.f
  rw [if_pos (Int.natCast_nonneg _), if_pos (by rw [Int.toNat_natCast]; omega), Int.toNat_natCast]
  have := laws_toRunnerS_l0 l hl l.length k 0 (by omega) hk
  simpa using this

theorem laws_eqRunnerS_l0 (l : List S26) (hl : l.length ≤ 1000000000) (d : Nat) : ∀ (k i : Nat), i + d = l.length → d < k → laws_eqRunnerS.l0 k l l (i : Int) = some true := by
  induction d with
  | zero =>
    intro k i hi hk
    obtain ⟨k, rfl⟩ : ∃ m, k = m + 1 := ⟨k - 1, by omega⟩
    simp only [laws_eqRunnerS.l0]
    rw [if_neg (by omega)]
  | succ d ih =>
    intro k i hi hk
    obtain ⟨k, rfl⟩ : ∃ m, k = m + 1 := ⟨k - 1, by omega⟩
    have e1 : wrap64 ((i : Int) + 1) = ((i + 1 : Nat) : Int) := by rw [w64 (by omega)]; rfl
    simp only [laws_eqRunnerS.l0, laws_eqRunner.f, if_true, Option.bind_some]
    rw [if_pos (by omega), if_pos (by omega), if_pos (by omega), e1]
    exact ih k (i + 1) (by omega) (by omega)
theorem laws_eqRunnerS_eq (l : List S26) (hl : l.length ≤ 1000000000) (k : Nat) (hk : l.length < k) : laws_eqRunnerS.f k l l = some true := by
  unfold laws_eqRunnerS.f
  rw [if_pos rfl]
  exact laws_eqRunnerS_l0 l hl l.length k 0 (by omega) hk

theorem laws_eqIntS_l0 (l : List Int) (hl : l.length ≤ 1000000000) (d : Nat) : ∀ (k i : Nat), i + d = l.length → d < k → laws_eqIntS.l0 k l l (i : Int) = some true := by
  induction d with
  | zero =>
    intro k i hi hk
    obtain ⟨k, rfl⟩ : ∃ m, k = m + 1 := ⟨k - 1, by omega⟩
    simp only [laws_eqIntS.l0]
    rw [if_neg (by omega)]
  | succ d ih =>
    intro k i hi hk
    obtain ⟨k, rfl⟩ : ∃ m, k = m + 1 := ⟨k - 1, by omega⟩
    have e1 : wrap64 ((i : Int) + 1) = ((i + 1 : Nat) : Int) := by rw [w64 (by omega)]; rfl
    simp only [laws_eqIntS.l0, if_true]
    rw [if_pos (by omega), if_pos (by omega), if_pos (by omega), e1]
    exact ih k (i + 1) (by omega) (by omega)
theorem laws_eqIntS_eq (l : List Int) (hl : l.length ≤ 1000000000) (k : Nat) (hk : l.length < k) : laws_eqIntS.f k l l = some true := by
  unfold laws_eqIntS.f
  rw [if_pos rfl]
  exact laws_eqIntS_l0 l hl l.length k 0 (by omega) hk

/-- 1, 2, .. -/
def upto (n : Nat) : List Int := (List.range n).map fun (j : Nat) => (j : Int) + 1
theorem upto_length (n : Nat) : (upto n).length = n := by simp [upto]
theorem laws_markIntS_l0 (l : List Int) (hl : l.length ≤ 1000000000) (d : Nat) : ∀ (k i : Nat), i + d = l.length → d < k →
    laws_markIntS.l0 k (upto i ++ l.drop i) ((i : Int) + 1) (i : Int) = some ((l.length : Int) + 1, upto l.length) := by
  induction d with
  | zero =>
    intro k i hi hk
    obtain ⟨k, rfl⟩ : ∃ m, k = m + 1 := ⟨k - 1, by omega⟩
    obtain rfl : i = l.length := by omega
    simp only [laws_markIntS.l0]
    rw [List.drop_of_length_le (Nat.le_refl _), List.append_nil, upto_length, if_neg (by omega)]
  | succ d ih =>
    intro k i hi hk
    obtain ⟨k, rfl⟩ : ∃ m, k = m + 1 := ⟨k - 1, by omega⟩
    have hlt : i < l.length := by omega
    have hlen : (upto i ++ l.drop i).length = l.length := by
      rw [List.length_append, upto_length, List.length_drop]
      omega
    have e1 : wrap64 ((i : Int) + 1) = ((i + 1 : Nat) : Int) := by rw [w64 (by omega)]; rfl
    have e2 : wrap64 ((i : Int) + 1 + 1) = ((i + 1 : Nat) : Int) + 1 := by rw [w64 (by omega)]; rfl
    have es : (upto i ++ l.drop i).set (i : Int).toNat ((i : Int) + 1) = upto (i + 1) ++ l.drop (i + 1) := by
      rw [Int.toNat_natCast, List.set_append_right _ _ (by rw [upto_length]; exact Nat.le_refl _), upto_length, Nat.sub_self, List.drop_eq_getElem_cons hlt, List.set_cons_zero]
      unfold upto
      rw [List.range_succ, List.map_append, List.append_assoc]
      rfl
    simp only [laws_markIntS.l0]
    rw [hlen, if_pos (by omega), if_pos (by omega), e1, e2, es]
    exact ih k (i + 1) (by omega) (by omega)
theorem laws_markIntS_eq (l : List Int) (hl : l.length ≤ 1000000000) (k : Nat) (hk : l.length < k) : laws_markIntS.f k l 1 = some ((l.length : Int) + 1, upto l.length) := by
  unfold laws_markIntS.f
  exact laws_markIntS_l0 l hl l.length k 0 (by omega) hk

theorem laws_heldIntS_l0 (n : Nat) (hl : n ≤ 1000000000) (d : Nat) : ∀ (k i : Nat), i + d = n → d < k → laws_heldIntS.l0 k (upto n) ((i : Int) + 1) (i : Int) = some ((n : Int) + 1) := by
  induction d with
  | zero =>
    intro k i hi hk
    obtain ⟨k, rfl⟩ : ∃ m, k = m + 1 := ⟨k - 1, by omega⟩
    obtain rfl : i = n := by omega
    simp only [laws_heldIntS.l0]
    rw [upto_length, if_neg (by omega)]
  | succ d ih =>
    intro k i hi hk
    obtain ⟨k, rfl⟩ : ∃ m, k = m + 1 := ⟨k - 1, by omega⟩
    have hlt : i < n := by omega
    have e1 : wrap64 ((i : Int) + 1) = ((i + 1 : Nat) : Int) := by rw [w64 (by omega)]; rfl
    have e2 : wrap64 ((i : Int) + 1 + 1) = ((i + 1 : Nat) : Int) + 1 := by rw [w64 (by omega)]; rfl
    have er : rd (upto n) (i : Int) = (i : Int) + 1 := by simp [rd, upto, hlt]
    simp only [laws_heldIntS.l0]
    rw [upto_length, if_pos (by omega), if_pos (by omega), er, if_pos rfl, e1, e2]
    exact ih k (i + 1) (by omega) (by omega)
theorem laws_heldIntS_eq (n : Nat) (hl : n ≤ 1000000000) (k : Nat) (hk : n < k) : laws_heldIntS.f k (upto n) 1 = some ((n : Int) + 1) := by
  unfold laws_heldIntS.f
  exact laws_heldIntS_l0 n hl n k 0 (by omega) hk

theorem spec_l1In_eq (a b c : Int) : spec_l1In.f a b c = some (decide (b ≤ a ∧ a ≤ c)) := by
  unfold spec_l1In.f
  by_cases h : b ≤ a <;> simp [h]

theorem spec_trLap_eq (a : Int) : spec_trLap.f a = some (decide (2 ≤ a ∧ a ≤ 1000)) := by
  simp only [spec_trLap.f, spec_l1In_eq, Option.bind_some]

/-- a runner of a track -/
def isRun (a s v : Int) : Prop := (0 ≤ s ∧ s ≤ a - 1) ∧ (1 ≤ v ∧ v ≤ 100)
instance (a s v : Int) : Decidable (isRun a s v) := by unfold isRun; infer_instance
theorem spec_trRunner_eq (a s v : Int) : spec_trRunner.f a s v = some (decide ((2 ≤ a ∧ a ≤ 1000) ∧ isRun a s v)) := by
  simp only [spec_trRunner.f, spec_trLap_eq, spec_l1In_eq, Option.bind_some]
  by_cases h1 : 2 ≤ a ∧ a ≤ 1000
  · rw [w64 (x := a - 1) (by omega)]
    by_cases h2 : 0 ≤ s ∧ s ≤ a - 1
    · by_cases h3 : 1 ≤ v ∧ v ≤ 100
      · have : isRun a s v := ⟨h2, h3⟩
        simp [h1, h2, h3, this]
      · have : ¬ isRun a s v := fun z => h3 z.2
        simp [h1, h2, h3, this]
    · have : ¬ isRun a s v := fun z => h2 z.1
      simp [h1, h2, this]
  · simp [h1]

theorem spec_trList_l0 (a : Int) (l : List S26) (hl : l.length ≤ 1000000000) (d : Nat) : ∀ (k i : Nat), i + d = l.length → d < k →
    spec_trList.l0 k a l (l.length : Int) (i : Int) = some (decide (∀ x ∈ l.drop i, (2 ≤ a ∧ a ≤ 1000) ∧ isRun a x.f0 x.f1)) := by
  induction d with
  | zero =>
    intro k i hi' hk
    obtain ⟨k, rfl⟩ : ∃ m, k = m + 1 := ⟨k - 1, by omega⟩
    simp only [spec_trList.l0]
    rw [if_neg (by omega), List.drop_of_length_le (by omega)]
    simp
  | succ d ih =>
    intro k i hi' hk
    obtain ⟨k, rfl⟩ : ∃ m, k = m + 1 := ⟨k - 1, by omega⟩
    have hlt : i < l.length := by omega
    have er : rd_T26 l (i : Int) = l[i] := by simp [rd_T26, hlt]
    simp only [spec_trList.l0]
    rw [if_pos (by omega), if_pos (by omega), if_pos (by omega), er, spec_trRunner_eq, List.drop_eq_getElem_cons hlt]
    simp only [Option.bind_some]
    have e1 : wrap64 ((i : Int) + 1) = ((i + 1 : Nat) : Int) := by rw [w64 (by omega)]; rfl
    rw [e1, ih k (i + 1) (by omega) (by omega)]
    have e2 : (∀ x ∈ l[i] :: l.drop (i + 1), (2 ≤ a ∧ a ≤ 1000) ∧ isRun a x.f0 x.f1) ↔ (((2 ≤ a ∧ a ≤ 1000) ∧ isRun a l[i].f0 l[i].f1) ∧ ∀ x ∈ l.drop (i + 1), (2 ≤ a ∧ a ≤ 1000) ∧ isRun a x.f0 x.f1) := List.forall_mem_cons
    by_cases h : (2 ≤ a ∧ a ≤ 1000) ∧ isRun a l[i].f0 l[i].f1
    · rw [decide_eq_true h, if_pos rfl]
      exact congrArg some (decide_eq_decide.mpr (e2.trans ⟨fun z => z.2, fun z => ⟨h, z⟩⟩).symm)
    · rw [decide_eq_false h, if_neg Bool.false_ne_true]
      exact congrArg some (decide_eq_false (fun z => h (e2.1 z).1)).symm
theorem spec_trList_iff (a : Int) (l : List S26) (hl : l.length ≤ 1000000000) (k : Nat) (hk : l.length < k) : ∃ b, spec_trList.f k a l = some b ∧ (b = true ↔ ((1 ≤ l.length ∧ l.length ≤ 6) ∧ ∀ x ∈ l, (2 ≤ a ∧ a ≤ 1000) ∧ isRun a x.f0 x.f1)) := by
  unfold spec_trList.f
  rw [spec_l1In_eq]
  simp only [Option.bind_some]
  by_cases h : 1 ≤ (l.length : Int) ∧ (l.length : Int) ≤ 6
  · have := spec_trList_l0 a l hl l.length k 0 (by omega) hk
    refine ⟨_, by rw [decide_eq_true h, if_pos rfl]; exact this, ?_⟩
    rw [decide_eq_true_eq, List.drop_zero]
    exact ⟨fun z => ⟨by omega, z⟩, fun z => z.2⟩
  · refine ⟨false, by rw [decide_eq_false h]; rfl, ?_⟩
    constructor
    · intro z
      cases z
    · intro z
      exact absurd (by have := z.1; omega) h

theorem spec_l1Least_eq (a b : Int) : spec_l1Least.f a b = some (if a < b then a else b) := by
  unfold spec_l1Least.f
  split <;> rfl

theorem impl_within_eq (a b c : Int) : impl_within.f a b c = some (decide (b ≤ a ∧ a ≤ c)) := by
  unfold impl_within.f
  by_cases h : b ≤ a <;> simp [h]

theorem impl_isRunner_eq (a s v : Int) (h1 : 2 ≤ a ∧ a ≤ 1000) : impl_isRunner.f a s v = some (decide (isRun a s v)) := by
  simp only [impl_isRunner.f, impl_within_eq, Option.bind_some]
  rw [w64 (x := a - 1) (by omega)]
  by_cases h2 : 0 ≤ s ∧ s ≤ a - 1
  · by_cases h3 : 1 ≤ v ∧ v ≤ 100
    · have : isRun a s v := ⟨h2, h3⟩
      simp [h2, h3, this]
    · have : ¬ isRun a s v := fun z => h3 z.2
      simp [h2, h3, this]
  · have : ¬ isRun a s v := fun z => h2 z.1
    simp [h2, this]

theorem noRun_eq (a : Int) (x : S26) (h1 : 2 ≤ a ∧ a ≤ 1000) : noRun a x = !(decide (isRun a x.f0 x.f1)) := by
  unfold noRun
  rw [impl_isRunner_eq a x.f0 x.f1 h1]
  rfl
/-- runners of a track -/
def areRun (a : Int) (l : List S26) : Prop := (2 ≤ a ∧ a ≤ 1000) ∧ (1 ≤ l.length ∧ l.length ≤ 6) ∧ ∀ x ∈ l, isRun a x.f0 x.f1
instance (a : Int) (l : List S26) : Decidable (areRun a l) := by unfold areRun; infer_instance
theorem impl_AreRunners_eq (a : Int) (l : List S26) : impl_AreRunners.f a l = some (decide (areRun a l)) := by
  unfold impl_AreRunners.f
  rw [impl_within_eq, impl_within_eq]
  simp only [Option.bind_some]
  by_cases h1 : 2 ≤ a ∧ a ≤ 1000
  · by_cases h2 : 1 ≤ (l.length : Int) ∧ (l.length : Int) ≤ 6
    · simp only [h1, h2, and_self, decide_true, if_true, Option.some.injEq]
      by_cases h3 : ∀ x ∈ l, isRun a x.f0 x.f1
      · have z : areRun a l := ⟨h1, by omega, h3⟩
        rw [decide_eq_true z, Bool.not_eq_true', List.any_eq_false]
        intro x hx
        rw [noRun_eq a x h1]
        simp [h3 x hx]
      · have z : ¬ areRun a l := fun y => h3 y.2.2
        rw [decide_eq_false z, Bool.not_eq_false', List.any_eq_true]
        have ⟨x, hx⟩ := Classical.not_forall.mp h3
        have ⟨hm, hn⟩ := Classical.not_imp.mp hx
        exact ⟨x, hm, by rw [noRun_eq a x h1]; simp [hn]⟩
    · have z : ¬ areRun a l := fun y => h2 (by have := y.2.1; omega)
      simp only [h1, h2, and_self, decide_true, decide_false, if_true, Bool.false_eq_true, if_false, decide_eq_false z]
  · have z : ¬ areRun a l := fun y => h1 y.1
    simp only [h1, decide_false, Bool.false_eq_true, if_false, decide_eq_false z]

theorem impl_areLaps_eq (a : Int) : impl_areLaps.f a = some (decide (1 ≤ a ∧ a ≤ 100)) := by
  simp only [impl_areLaps.f, impl_within_eq, Option.bind_some]

theorem laws_markRunnerS_l0 (n : Nat) (hl : n ≤ 1000000000) (d : Nat) : ∀ (k i : Nat) (l : List S26), l.length = n → i + d = n → d < k →
    ∃ l', laws_markRunnerS.l0 k l (2 * (i : Int) + 1) (i : Int) = some (2 * (n : Int) + 1, l') := by
  induction d with
  | zero =>
    intro k i l hn hi hk
    obtain ⟨k, rfl⟩ : ∃ m, k = m + 1 := ⟨k - 1, by omega⟩
    obtain rfl : i = n := by omega
    refine ⟨l, ?_⟩
    simp only [laws_markRunnerS.l0]
    rw [if_neg (by omega)]
  | succ d ih =>
    intro k i l hn hi hk
    obtain ⟨k, rfl⟩ : ∃ m, k = m + 1 := ⟨k - 1, by omega⟩
    have e1 : wrap64 ((i : Int) + 1) = ((i + 1 : Nat) : Int) := by rw [w64 (by omega)]; rfl
    have e2 : wrap64 (wrap64 (2 * (i : Int) + 1 + 1) + 1) = 2 * ((i + 1 : Nat) : Int) + 1 := by
      rw [w64 (x := 2 * (i : Int) + 1 + 1) (by omega), w64 (by omega)]
      omega
    simp only [laws_markRunnerS.l0, Option.bind_some]
    rw [if_pos (by omega), if_pos (by omega), e1, e2]
    exact ih k (i + 1) _ (by simp only [List.length_set]; exact hn) (by omega) (by omega)
theorem laws_markRunnerS_eq (l : List S26) (hl : l.length ≤ 1000000000) (k : Nat) (hk : l.length < k) : ∃ l', laws_markRunnerS.f k l 1 = some (2 * (l.length : Int) + 1, l') := by
  unfold laws_markRunnerS.f
  exact laws_markRunnerS_l0 l.length hl l.length k 0 l rfl (by omega) hk

theorem spec_trList_eq (a : Int) (l : List S26) (hl : l.length ≤ 1000000000) (k : Nat) (hk : l.length < k) : spec_trList.f k a l = some (decide (areRun a l)) := by
  obtain ⟨b, h1, h2⟩ := spec_trList_iff a l hl k hk
  rw [h1]
  congr 1
  rw [Bool.eq_iff_iff, decide_eq_true_eq, h2]
  unfold areRun
  constructor
  · rintro ⟨y, z⟩
    have ⟨q, hq⟩ : ∃ q, q ∈ l := List.exists_mem_of_length_pos (by omega)
    exact ⟨(z q hq).1, y, fun q hq => (z q hq).2⟩
  · rintro ⟨x, y, z⟩
    exact ⟨y, fun q hq => ⟨x, z q hq⟩⟩
/-- a quotient rounded up -/
def ceil (L v : Int) : Int := (L + v - 1) / v
theorem ceil_le (L v m : Int) (hv : 1 ≤ v) : ceil L v ≤ m ↔ L ≤ v * m := by
  unfold ceil
  rw [← Int.lt_add_one_iff, Int.ediv_lt_iff_lt_mul (by omega), Int.add_mul, Int.mul_comm m v]
  omega
theorem ceil_mono (L u v : Int) (hu : 1 ≤ u) (h : u ≤ v) (hL : 0 ≤ L) : ceil L v ≤ ceil L u := by
  rw [ceil_le L v _ (by omega)]
  have h1 := (ceil_le L u (ceil L u) hu).mp (Int.le_refl _)
  have h2 : 0 ≤ ceil L u := Int.ediv_nonneg (by omega) (by omega)
  have := Int.mul_le_mul_of_nonneg_right h h2
  omega
theorem ceil_range (L v : Int) (hv : 1 ≤ v) (hL : 0 ≤ L ∧ L ≤ 100000) : 0 ≤ ceil L v ∧ ceil L v ≤ 100000 := by
  refine ⟨Int.ediv_nonneg (by omega) (by omega), ?_⟩
  rw [ceil_le L v _ hv]
  have := Int.mul_le_mul_of_nonneg_right hv (show (0 : Int) ≤ 100000 by omega)
  omega
def least (L b : Int) : List S26 → Int
  | [] => b
  | x :: r => least L (if b < ceil L x.f1 then b else ceil L x.f1) r
def most (b : Int) : List S26 → Int
  | [] => b
  | x :: r => most (mx b x.f1) r
theorem most_range (l : List S26) (hv : ∀ x ∈ l, 1 ≤ x.f1 ∧ x.f1 ≤ 100) : ∀ b : Int, 0 ≤ b ∧ b ≤ 100 → b ≤ most b l ∧ most b l ≤ 100 := by
  induction l with
  | nil => exact fun b h => ⟨Int.le_refl b, h.2⟩
  | cons x r ih =>
    intro b h
    have hx := hv x (List.mem_cons_self)
    have m : b ≤ mx b x.f1 ∧ mx b x.f1 ≤ 100 ∧ 0 ≤ mx b x.f1 := by
      unfold mx
      split <;> omega
    have := ih (fun y hy => hv y (List.mem_cons_of_mem _ hy)) (mx b x.f1) ⟨m.2.2, m.2.1⟩
    exact ⟨Int.le_trans m.1 this.1, this.2⟩
theorem least_most (L : Int) (hL : 0 ≤ L ∧ L ≤ 100000) (l : List S26) (hv : ∀ x ∈ l, 1 ≤ x.f1 ∧ x.f1 ≤ 100) : ∀ u : Int, 1 ≤ u → least L (ceil L u) l = ceil L (most u l) := by
  induction l with
  | nil => exact fun u _ => rfl
  | cons x r ih =>
    intro u hu
    have hx := hv x (List.mem_cons_self)
    have e : (if ceil L u < ceil L x.f1 then ceil L u else ceil L x.f1) = ceil L (mx u x.f1) := by
      unfold mx
      by_cases h : u < x.f1
      · have := ceil_mono L u x.f1 hu (by omega) hL.1
        rw [if_pos h]
        split <;> omega
      · have := ceil_mono L x.f1 u hx.1 (by omega) hL.1
        rw [if_neg h]
        split <;> omega
    show least L (if ceil L u < ceil L x.f1 then ceil L u else ceil L x.f1) r = ceil L (most (mx u x.f1) r)
    rw [e]
    refine ih (fun y hy => hv y (List.mem_cons_of_mem _ hy)) _ ?_
    unfold mx
    split <;> omega
def winl (c : Int → Bool) (i : Nat) : List S26 → List Int
  | [] => []
  | x :: r => (if c x.f1 = true then [(i : Int)] else []) ++ winl c (i + 1) r
theorem winl_length (c : Int → Bool) (l : List S26) : ∀ i, (winl c i l).length ≤ l.length := by
  induction l with
  | nil => exact fun _ => Nat.le_refl 0
  | cons x r ih =>
    intro i
    have := ih (i + 1)
    unfold winl
    rw [List.length_append, List.length_cons]
    split <;> simp only [List.length_cons, List.length_nil] <;> omega
theorem spec_win_l1 (a p B : Int) (ha : 2 ≤ a ∧ a ≤ 1000) (hp : 1 ≤ p ∧ p ≤ 100) (hB : 0 ≤ B ∧ B ≤ 100000) (l : List S26) (hl : l.length ≤ 6) (hv : ∀ x ∈ l, 1 ≤ x.f1 ∧ x.f1 ≤ 100) (d : Nat) : ∀ (k i : Nat) (acc : List Int), i + d = l.length → d < k → acc.length ≤ i →
    spec_WinnerOfLaps.l1 k a p B acc l (l.length : Int) (i : Int) = some (acc ++ winl (fun v => decide (v * B ≥ p * a)) i (l.drop i), true) := by
  induction d with
  | zero =>
    intro k i acc hi hk hacc
    obtain ⟨k, rfl⟩ : ∃ m, k = m + 1 := ⟨k - 1, by omega⟩
    simp only [spec_WinnerOfLaps.l1]
    rw [if_neg (by omega), List.drop_of_length_le (by omega)]
    simp [winl]
  | succ d ih =>
    intro k i acc hi hk hacc
    obtain ⟨k, rfl⟩ : ∃ m, k = m + 1 := ⟨k - 1, by omega⟩
    have hlt : i < l.length := by omega
    have er : rd_T26 l (i : Int) = l[i] := by simp [rd_T26, hlt]
    have e1 : wrap64 ((i : Int) + 1) = ((i + 1 : Nat) : Int) := by rw [w64 (by omega)]; rfl
    have hx := hv l[i] (List.getElem_mem hlt)
    have q1 := bm (A := 100) (B := 100000) (a := l[i].f1) (b := B) (by omega) hB
    have q2 := bm (A := 100) (B := 1000) (a := p) (b := a) (by omega) (by omega)
    simp only [spec_WinnerOfLaps.l1]
    rw [if_pos (by omega), if_pos (by omega), if_pos (by omega), er, e1, w64 (x := l[i].f1 * B) (by omega), w64 (x := p * a) (by omega), List.drop_eq_getElem_cons hlt]
    show _ = some (acc ++ ((if decide (l[i].f1 * B ≥ p * a) = true then [(i : Int)] else []) ++ winl _ (i + 1) _), true)
    by_cases z : l[i].f1 * B ≥ p * a
    · rw [if_pos z, if_pos (by omega), decide_eq_true z, if_pos rfl, ih k (i + 1) _ (by omega) (by omega) (by rw [List.length_append]; simp only [List.length_cons, List.length_nil]; omega), List.append_assoc]
    · rw [if_neg z, decide_eq_false z, if_neg Bool.false_ne_true, List.nil_append]
      exact ih k (i + 1) _ (by omega) (by omega) (by omega)
theorem impl_win_l1 (a p B : Int) (ha : 2 ≤ a ∧ a ≤ 1000) (hp : 1 ≤ p ∧ p ≤ 100) (hB : 0 ≤ B ∧ B ≤ 100000) (l : List S26) (hl : l.length ≤ 6) (hv : ∀ x ∈ l, 1 ≤ x.f1 ∧ x.f1 ≤ 100) (d : Nat) : ∀ (k i : Nat) (acc : List Int), i + d = l.length → d < k → acc.length ≤ i →
    impl_WinnerOfLaps.l1 k a p B acc l (l.length : Int) (i : Int) = some (acc ++ winl (fun v => decide (v * B ≥ p * a)) i (l.drop i), true) := by
  induction d with
  | zero =>
    intro k i acc hi hk hacc
    obtain ⟨k, rfl⟩ : ∃ m, k = m + 1 := ⟨k - 1, by omega⟩
    simp only [impl_WinnerOfLaps.l1]
    rw [if_neg (by omega), List.drop_of_length_le (by omega)]
    simp [winl]
  | succ d ih =>
    intro k i acc hi hk hacc
    obtain ⟨k, rfl⟩ : ∃ m, k = m + 1 := ⟨k - 1, by omega⟩
    have hlt : i < l.length := by omega
    have er : rd_T26 l (i : Int) = l[i] := by simp [rd_T26, hlt]
    have e1 : wrap64 ((i : Int) + 1) = ((i + 1 : Nat) : Int) := by rw [w64 (by omega)]; rfl
    have hx := hv l[i] (List.getElem_mem hlt)
    have q1 := bm (A := 100) (B := 100000) (a := l[i].f1) (b := B) (by omega) hB
    have d0 := Int.ediv_nonneg q1.1 (show 0 ≤ a by omega)
    have d1 := Int.ediv_le_self a q1.1
    have eq1 : wrap64 (Int.tdiv (l[i].f1 * B) a) = l[i].f1 * B / a := by
      rw [Int.tdiv_eq_ediv_of_nonneg q1.1, w64 (by omega)]
    have iff1 : l[i].f1 * B / a ≥ p ↔ l[i].f1 * B ≥ p * a := Int.le_ediv_iff_mul_le (by omega)
    simp only [impl_WinnerOfLaps.l1]
    rw [if_pos (by omega), if_pos (by omega), if_pos (by omega), if_neg (by omega), er, e1, w64 (x := l[i].f1 * B) (by omega), eq1, List.drop_eq_getElem_cons hlt]
    show _ = some (acc ++ ((if decide (l[i].f1 * B ≥ p * a) = true then [(i : Int)] else []) ++ winl _ (i + 1) _), true)
    by_cases z : l[i].f1 * B ≥ p * a
    · rw [if_pos (iff1.mpr z), if_pos (by omega), decide_eq_true z, if_pos rfl, ih k (i + 1) _ (by omega) (by omega) (by rw [List.length_append]; simp only [List.length_cons, List.length_nil]; omega), List.append_assoc]
    · rw [if_neg (fun y => z (iff1.mp y)), decide_eq_false z, if_neg Bool.false_ne_true, List.nil_append]
      exact ih k (i + 1) _ (by omega) (by omega) (by omega)
theorem spec_win_l0 (a p : Int) (ha : 2 ≤ a ∧ a ≤ 1000) (hp : 1 ≤ p ∧ p ≤ 100) (l : List S26) (hl : l.length ≤ 6) (hv : ∀ x ∈ l, 1 ≤ x.f1 ∧ x.f1 ≤ 100) (d : Nat) : ∀ (k i : Nat) (b : Int), i + d = l.length → d + 20 < k →
    ∃ k', 10 < k' ∧ spec_WinnerOfLaps.l0 k a l p b l (l.length : Int) (i : Int) = spec_WinnerOfLaps.l1 k' a p (least (p * a) b (l.drop i)) [] l (l.length : Int) 0 := by
  have q2 := bm (A := 100) (B := 1000) (a := p) (b := a) (by omega) (by omega)
  induction d with
  | zero =>
    intro k i b hi hk
    obtain ⟨k, rfl⟩ : ∃ m, k = m + 1 := ⟨k - 1, by omega⟩
    refine ⟨k, by omega, ?_⟩
    simp only [spec_WinnerOfLaps.l0]
    rw [if_neg (by omega), List.drop_of_length_le (by omega)]
    rfl
  | succ d ih =>
    intro k i b hi hk
    obtain ⟨k, rfl⟩ : ∃ m, k = m + 1 := ⟨k - 1, by omega⟩
    have hlt : i < l.length := by omega
    have er : rd_T26 l (i : Int) = l[i] := by simp [rd_T26, hlt]
    have e1 : wrap64 ((i : Int) + 1) = ((i + 1 : Nat) : Int) := by rw [w64 (by omega)]; rfl
    have hx := hv l[i] (List.getElem_mem hlt)
    have cr := ceil_range (p * a) l[i].f1 hx.1 q2
    have ec : wrap64 (Int.tdiv (p * a + l[i].f1 - 1) l[i].f1) = ceil (p * a) l[i].f1 := by
      rw [Int.tdiv_eq_ediv_of_nonneg (by omega)]
      exact w64 (by unfold ceil at cr; omega)
    obtain ⟨k', h1, h2⟩ := ih k (i + 1) (if b < ceil (p * a) l[i].f1 then b else ceil (p * a) l[i].f1) (by omega) (by omega)
    refine ⟨k', h1, ?_⟩
    simp only [spec_WinnerOfLaps.l0]
    rw [if_pos (by omega), if_pos (by omega), if_pos (by omega), er, if_neg (by omega), e1, w64 (x := p * a) (by omega), w64 (x := p * a + l[i].f1) (by omega), w64 (x := p * a + l[i].f1 - 1) (by omega), ec, spec_l1Least_eq, List.drop_eq_getElem_cons hlt]
    simp only [Option.bind_some]
    exact h2
theorem impl_win_l0 (a p : Int) (ha : 2 ≤ a ∧ a ≤ 1000) (hp : 1 ≤ p ∧ p ≤ 100) (l : List S26) (hl : l.length ≤ 6) (hv : ∀ x ∈ l, 1 ≤ x.f1 ∧ x.f1 ≤ 100) (d : Nat) : ∀ (k i : Nat) (b : Int), i + d = l.length → d + 20 < k → 0 ≤ b ∧ b ≤ 100 → 0 < most b (l.drop i) →
    ∃ k', 10 < k' ∧ impl_WinnerOfLaps.l0 k a l p b l (l.length : Int) (i : Int) = impl_WinnerOfLaps.l1 k' a p (ceil (p * a) (most b (l.drop i))) [] l (l.length : Int) 0 := by
  have q2 := bm (A := 100) (B := 1000) (a := p) (b := a) (by omega) (by omega)
  induction d with
  | zero =>
    intro k i b hi hk hb hpos
    obtain ⟨k, rfl⟩ : ∃ m, k = m + 1 := ⟨k - 1, by omega⟩
    refine ⟨k, by omega, ?_⟩
    rw [List.drop_of_length_le (by omega)] at hpos ⊢
    change 0 < b at hpos
    have cr := ceil_range (p * a) b (by omega) q2
    have ec : wrap64 (Int.tdiv (p * a + b - 1) b) = ceil (p * a) b := by
      rw [Int.tdiv_eq_ediv_of_nonneg (by omega)]
      exact w64 (by unfold ceil at cr; omega)
    simp only [impl_WinnerOfLaps.l0]
    rw [if_neg (by omega), if_neg (by omega), w64 (x := p * a) (by omega), w64 (x := p * a + b) (by omega), w64 (x := p * a + b - 1) (by omega), ec]
    rfl
  | succ d ih =>
    intro k i b hi hk hb hpos
    obtain ⟨k, rfl⟩ : ∃ m, k = m + 1 := ⟨k - 1, by omega⟩
    have hlt : i < l.length := by omega
    have er : rd_T26 l (i : Int) = l[i] := by simp [rd_T26, hlt]
    have e1 : wrap64 ((i : Int) + 1) = ((i + 1 : Nat) : Int) := by rw [w64 (by omega)]; rfl
    have hx := hv l[i] (List.getElem_mem hlt)
    rw [List.drop_eq_getElem_cons hlt] at hpos ⊢
    have m : 0 ≤ mx b l[i].f1 ∧ mx b l[i].f1 ≤ 100 := by
      unfold mx
      split <;> omega
    obtain ⟨k', h1, h2⟩ := ih k (i + 1) (mx b l[i].f1) (by omega) (by omega) m hpos
    refine ⟨k', h1, ?_⟩
    simp only [impl_WinnerOfLaps.l0]
    rw [if_pos (by omega), if_pos (by omega), if_pos (by omega), er, e1]
    exact h2
theorem win_both (a p : Int) (ha : 2 ≤ a ∧ a ≤ 1000) (hp : 1 ≤ p ∧ p ≤ 100) (l : List S26) (hl : 1 ≤ l.length ∧ l.length ≤ 6) (hv : ∀ x ∈ l, 1 ≤ x.f1 ∧ x.f1 ≤ 100) (k : Nat) (hk : 100 < k) :
    ∃ W : List Int, W.length ≤ 6 ∧ spec_WinnerOfLaps.l0 k a l p 1000000 l (l.length : Int) 0 = some (W, true) ∧ impl_WinnerOfLaps.l0 k a l p 0 l (l.length : Int) 0 = some (W, true) := by
  have q2 := bm (A := 100) (B := 1000) (a := p) (b := a) (by omega) (by omega)
  obtain ⟨x, r, rfl⟩ : ∃ x r, l = x :: r := by
    cases l with
    | nil => simp at hl
    | cons x r => exact ⟨x, r, rfl⟩
  have hx := hv x (List.mem_cons_self)
  have hr : ∀ y ∈ r, 1 ≤ y.f1 ∧ y.f1 ≤ 100 := fun y hy => hv y (List.mem_cons_of_mem _ hy)
  have e0 : mx 0 x.f1 = x.f1 := by
    unfold mx
    rw [if_pos (by omega)]
  have eM : most 0 (x :: r) = most x.f1 r := by
    show most (mx 0 x.f1) r = _
    rw [e0]
  have cx := ceil_range (p * a) x.f1 hx.1 q2
  have eL : least (p * a) 1000000 (x :: r) = ceil (p * a) (most x.f1 r) := by
    show least (p * a) (if (1000000 : Int) < ceil (p * a) x.f1 then 1000000 else ceil (p * a) x.f1) r = _
    rw [if_neg (by omega)]
    exact least_most (p * a) q2 r hr x.f1 hx.1
  have mr := most_range r hr x.f1 (by omega)
  have cm := ceil_range (p * a) (most x.f1 r) (by omega) q2
  obtain ⟨k1, h1, h2⟩ := spec_win_l0 a p ha hp (x :: r) hl.2 hv (x :: r).length k 0 1000000 (by omega) (by omega)
  obtain ⟨k2, h3, h4⟩ := impl_win_l0 a p ha hp (x :: r) hl.2 hv (x :: r).length k 0 0 (by omega) (by omega) (by omega) (by rw [List.drop_zero, eM]; omega)
  rw [List.drop_zero, eL] at h2
  rw [List.drop_zero, eM] at h4
  have h5 := spec_win_l1 a p (ceil (p * a) (most x.f1 r)) ha hp cm (x :: r) hl.2 hv (x :: r).length k1 0 [] (by omega) (by omega) (Nat.le_refl 0)
  have h6 := impl_win_l1 a p (ceil (p * a) (most x.f1 r)) ha hp cm (x :: r) hl.2 hv (x :: r).length k2 0 [] (by omega) (by omega) (Nat.le_refl 0)
  refine ⟨_, ?_, h2.trans h5, h4.trans h6⟩
  rw [List.nil_append, List.drop_zero]
  exact Nat.le_trans (winl_length _ _ 0) hl.2
theorem finish (k : Nat) (a p : Int) (l : List S23) (W : List Int) (b : Bool) (hW : W.length ≤ 6) (hl : ¬ 1048576 < l.length) (hk : 1048577 < k) (hs : spec_WinnerOfLaps.f (k + 3) a (conv l) p = some (W, b)) (hi : ∀ j, k ≤ j → impl_WinnerOfLaps.f j a (conv l) p = some (W, b)) :
    laws_FnExactWinnerOfLaps.f (k + 3) a l p = some true := by
  have hc : (conv l).length = l.length := conv_length l
  have h4 : ¬ (1048576 - (l.length : Int)) < 0 := by omega
  obtain ⟨l', m1⟩ := laws_markRunnerS_eq (conv l) (by omega) (k + 2) (by omega)
  have h5 : ¬ (2 * ((conv l).length : Int) + 1) < 0 := by omega
  have h6 : ¬ ((W.length : Int) + 1) < 0 := by omega
  simp only [laws_FnExactWinnerOfLaps.f, laws_szRunnerS_eq l (by omega), hl, h4, if_false, laws_toRunnerS_eq l (by omega) (k + 3) (by omega), hs, hi (k + 3) (by omega), laws_eqIntS_eq W (by omega) (k + 3) (by omega), Option.bind_some, if_true, bne_self_eq_false]
  simp only [laws_FnExactWinnerOfLaps.j0, Bool.false_eq_true, if_false, laws_toRunnerS_eq l (by omega) (k + 2) (by omega), laws_eqRunnerS_eq (conv l) (by omega) (k + 2) (by omega), m1, h5, laws_eqIntS_eq W (by omega) (k + 2) (by omega), Option.bind_some, if_true, bne_self_eq_false]
  simp only [laws_FnExactWinnerOfLaps.j1, Bool.false_eq_true, if_false, laws_markIntS_eq W (by omega) (k + 1) (by omega), laws_heldIntS_eq W.length (by omega) (k + 1) (by omega), h6, laws_toRunnerS_eq l (by omega) (k + 1) (by omega), hi (k + 1) (by omega), laws_eqIntS_eq W (by omega) (k + 1) (by omega), Option.bind_some, if_true, bne_self_eq_false]
  simp only [laws_FnExactWinnerOfLaps.j2, Bool.false_eq_true, if_false, laws_heldIntS_eq W.length (by omega) k (by omega), h6, Option.bind_some, if_true]
theorem holds (a : Int) (l : List S23) (p : Int) (_ : (Lit.int .i64 a).wf = true) (hm : l.length ≤ 9223372036854775807) (_ : (Lit.int .i64 p).wf = true) : ∃ k, laws_FnExactWinnerOfLaps.f k a l p = some true := by
  by_cases hb : 1048576 < l.length
  · exact ⟨0, by simp [laws_FnExactWinnerOfLaps.f, laws_szRunnerS_eq l hm, hb]⟩
  · obtain ⟨k, hk⟩ : ∃ k : Nat, 1048579 < k := ⟨1048580, by decide⟩
    refine ⟨k + 3, ?_⟩
    have hc : (conv l).length = l.length := conv_length l
    have e4 := spec_trList_eq a (conv l) (by omega) (k + 3) (by omega)
    have e5 := impl_AreRunners_eq a (conv l)
    have e6 := spec_l1In_eq p 1 100
    have e7 := impl_areLaps_eq p
    by_cases h : areRun a (conv l)
    · rw [decide_eq_true h] at e4 e5
      by_cases hp : 1 ≤ p ∧ p ≤ 100
      · rw [decide_eq_true hp] at e6 e7
        have hv : ∀ x ∈ conv l, 1 ≤ x.f1 ∧ x.f1 ≤ 100 := fun x hx => (h.2.2 x hx).2
        obtain ⟨W, w1, w2, w3⟩ := win_both a p h.1 hp (conv l) h.2.1 hv (k + 2) (by omega)
        have w4 : ∀ j, 200 < j → impl_WinnerOfLaps.l0 j a (conv l) p 0 (conv l) ((conv l).length : Int) 0 = some (W, true) := by
          intro j hj
          obtain ⟨W', _, _, z⟩ := win_both a p h.1 hp (conv l) h.2.1 hv j (by omega)
          rw [z]
          have up : ∀ n m, LeO (impl_WinnerOfLaps.l0 n a (conv l) p 0 (conv l) ((conv l).length : Int) 0) (impl_WinnerOfLaps.l0 (n + m) a (conv l) p 0 (conv l) ((conv l).length : Int) 0) := by
            intro n m
            induction m with
            | zero => exact LeO.refl _
            | succ m ih => exact fun r hr => (impl_WinnerOfLaps.mono_l (n + m)).2.1 _ _ _ _ _ _ _ _ (ih r hr)
          rcases Nat.le_total j (k + 2) with q | q
          · have := up j (k + 2 - j) _ z
            rw [show j + (k + 2 - j) = k + 2 by omega, w3] at this
            exact this.symm
          · have := up (k + 2) (j - (k + 2)) _ w3
            rw [show k + 2 + (j - (k + 2)) = j by omega, z] at this
            exact this
        refine finish k a p l W true w1 hb (by omega) ?_ ?_
        · simp only [spec_WinnerOfLaps.f, e4, e6, Option.bind_some, if_true, Bool.not_true, spec_WinnerOfLaps.j0, Bool.false_eq_true, if_false, w2]
        · intro j hj
          obtain ⟨j, rfl⟩ : ∃ m, j = m + 1 := ⟨j - 1, by omega⟩
          simp only [impl_WinnerOfLaps.f, e5, e7, Option.bind_some, if_true, Bool.not_true, impl_WinnerOfLaps.j0, Bool.false_eq_true, if_false, w4 j (by omega)]
      · rw [decide_eq_false hp] at e6 e7
        refine finish k a p l [] false (by simp) hb (by omega) ?_ ?_
        · simp only [spec_WinnerOfLaps.f, e4, e6, Option.bind_some, if_true, Bool.not_false, spec_WinnerOfLaps.j0]
        · intro j hj
          obtain ⟨j, rfl⟩ : ∃ m, j = m + 1 := ⟨j - 1, by omega⟩
          simp only [impl_WinnerOfLaps.f, e5, e7, Option.bind_some, if_true, Bool.not_false, impl_WinnerOfLaps.j0]
    · rw [decide_eq_false h] at e4 e5
      refine finish k a p l [] false (by simp) hb (by omega) ?_ ?_
      · simp only [spec_WinnerOfLaps.f, e4, Option.bind_some, Bool.false_eq_true, if_false, spec_WinnerOfLaps.j0, if_true]
      · intro j hj
        obtain ⟨j, rfl⟩ : ∃ m, j = m + 1 := ⟨j - 1, by omega⟩
        simp only [impl_WinnerOfLaps.f, e5, Option.bind_some, Bool.false_eq_true, if_false, impl_WinnerOfLaps.j0, if_true]

end Go.Proofs.Ytkehnndlladnlaa.QFnExactWinnerOfLaps
