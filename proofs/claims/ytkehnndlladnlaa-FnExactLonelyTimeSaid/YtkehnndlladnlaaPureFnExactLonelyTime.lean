/- The law FnExactLonelyTime in plain Lean, over the printed functions: it returns true for every input (no condition). -/
import Derived.Test.YtkehnndlladnlaaPFnExactLonelyTimex4
import Derived.OpenShut
namespace Go.Proofs.Ytkehnndlladnlaa.QFnExactLonelyTime
open Go.RowKit Go.ChangeShapes Go.WideShapes Go.Proofs.Ytkehnndlladnlaa.PFnExactLonelyTime Go.Proofs.YtkehnndlladnlaaW.PrintWords Go.Proofs.YtkehnndlladnlaaW.PrintLast Go.Proofs.YtkehnndlladnlaaW.PrintMore
set_option linter.unusedVariables false
set_option linter.unusedSimpArgs false
theorem w64 {x : Int} (h : -9223372036854775808 ≤ x ∧ x ≤ 9223372036854775807) : wrap64 x = x := by unfold wrap64; omega
theorem bm {a b A B : Int} (ha : 0 ≤ a ∧ a ≤ A) (hb : 0 ≤ b ∧ b ≤ B) : 0 ≤ a * b ∧ a * b ≤ A * B :=
  ⟨Int.mul_nonneg ha.1 hb.1, Int.mul_le_mul ha.2 hb.2 hb.1 (Int.le_trans ha.1 ha.2)⟩
theorem gcd_step (a b : Int) (ha : 0 ≤ a) (hb : 0 ≤ b) : Int.gcd b (a.tmod b) = Int.gcd a b := by
  obtain ⟨m, rfl⟩ := Int.eq_ofNat_of_zero_le ha
  obtain ⟨n, rfl⟩ := Int.eq_ofNat_of_zero_le hb
  rw [← Int.ofNat_tmod]
  show Nat.gcd n (m % n) = Nat.gcd m n
  rw [Nat.gcd_comm n, ← Nat.gcd_rec, Nat.gcd_comm]
def lowN (a b : Int) : Int := a / (Int.gcd a b : Int)
def lowD (a b : Int) : Int := b / (Int.gcd a b : Int)
theorem gpos {a b : Int} (hb : 0 < b) : 0 < (Int.gcd a b : Int) := by
  have := Int.gcd_pos_of_ne_zero_right a (show b ≠ 0 by omega)
  omega
theorem gle {a b : Int} (hb : 0 < b) : (Int.gcd a b : Int) ≤ b := Int.le_of_dvd hb (Int.gcd_dvd_right a b)
theorem tdiv_gcd_l (a b : Int) : a.tdiv (Int.gcd a b) = lowN a b := by
  unfold lowN
  exact (Int.tdiv_eq_ediv_of_dvd (Int.gcd_dvd_left a b))
theorem tdiv_gcd_r (a b : Int) : b.tdiv (Int.gcd a b) = lowD a b := by
  unfold lowD
  exact (Int.tdiv_eq_ediv_of_dvd (Int.gcd_dvd_right a b))
theorem low_range {a b M : Int} (hb : 0 < b) (ha : -M ≤ a ∧ a ≤ M) : -M ≤ lowN a b ∧ lowN a b ≤ M := by
  unfold lowN
  have g := gpos (a := a) hb
  have hM : 0 ≤ M := by omega
  have e := Int.ediv_mul_cancel (Int.gcd_dvd_left a b)
  constructor
  · apply Int.le_ediv_of_mul_le g
    have : -M * (Int.gcd a b : Int) ≤ -M * 1 := Int.mul_le_mul_of_nonpos_left (by omega) (by omega)
    omega
  · rcases Int.le_total 0 a with h | h
    · have := Int.ediv_le_self (Int.gcd a b : Int) h
      omega
    · have := Int.ediv_le_ediv g h
      rw [Int.zero_ediv] at this
      omega
theorem lowD_range {a b : Int} (hb : 0 < b) : 1 ≤ lowD a b ∧ lowD a b ≤ b := by
  unfold lowD
  have g := gpos (a := a) hb
  constructor
  · apply Int.le_ediv_of_mul_le g
    have := gle (a := a) hb
    omega
  · exact Int.ediv_le_self _ (by omega)
theorem bms {a b A B : Int} (ha : -A ≤ a ∧ a ≤ A) (hb : 0 ≤ b ∧ b ≤ B) : -(A * B) ≤ a * b ∧ a * b ≤ A * B := by
  have hA : 0 ≤ A := by omega
  rcases Int.le_total 0 a with h | h
  · have := bm ⟨h, ha.2⟩ hb
    have := Int.mul_nonneg hA (Int.le_trans hb.1 hb.2)
    omega
  · have := bm (a := -a) (A := A) ⟨by omega, by omega⟩ hb
    have e : -a * b = -(a * b) := Int.neg_mul a b
    omega
theorem low_scale (a b c : Int) (hc : 0 < c) : lowN (a * c) (b * c) = lowN a b ∧ lowD (a * c) (b * c) = lowD a b := by
  have e : (Int.gcd (a * c) (b * c) : Int) = (Int.gcd a b : Int) * c := by
    rw [Int.gcd_mul_right]
    have : (c.natAbs : Int) = c := by omega
    rw [Int.natCast_mul, this]
  unfold lowN lowD
  rw [e]
  exact ⟨Int.mul_ediv_mul_of_pos_left a _ hc, Int.mul_ediv_mul_of_pos_left b _ hc⟩
theorem w64b {x B : Int} (h : 0 ≤ x ∧ x ≤ B) (hB : B ≤ 9223372036854775807) : wrap64 x = x := w64 ⟨Int.le_trans (by decide) h.1, Int.le_trans h.2 hB⟩
theorem ad {x y A B : Int} (hx : 0 ≤ x ∧ x ≤ A) (hy : 0 ≤ y ∧ y ≤ B) : 0 ≤ x + y ∧ x + y ≤ A + B := ⟨Int.add_nonneg hx.1 hy.1, Int.add_le_add hx.2 hy.2⟩

theorem laws_szRunnerS_eq (l : List S23) (hl : l.length ≤ 9223372036854775807) : laws_szRunnerS.f l 1048576 = some (if 1048576 < l.length then -1 else 1048576 - (l.length : Int)) := by
  unfold laws_szRunnerS.f
  rw [w64 (by omega)]
  by_cases h : 1048576 < l.length
  · rw [if_pos h, if_pos (by omega)]
  · rw [if_neg h, if_neg (by omega)]

/-- the list as the program has it -/
def conv (l : List S23) : List S26 := l.map fun x => ⟨x.f0, x.f1⟩
theorem conv_length (l : List S23) : (conv l).length = l.length := by simp [conv]
theorem conv_rd (l : List S23) (i : Nat) (h : i < l.length) : (⟨(rd_T23 l (i : Int)).f0, (rd_T23 l (i : Int)).f1⟩ : S26) = (conv l)[i]'(by rw [conv_length]; exact h) := by
  simp [rd_T23, conv, h]
theorem laws_toRunnerS_l0 (l : List S23) (hl : l.length ≤ 1000000000) (d : Nat) : ∀ (k i : Nat), i + d = l.length → d < k →
    laws_toRunnerS.l0 k l ((conv l).take i ++ List.replicate d z26) (i : Int) = some (conv l) := by
  induction d with
  | zero =>
    intro k i hi hk
    obtain ⟨k, rfl⟩ : ∃ m, k = m + 1 := ⟨k - 1, by omega⟩
    simp only [laws_toRunnerS.l0]
    rw [if_neg (by omega), List.take_of_length_le (by rw [conv_length]; omega)]
    simp
  | succ d ih =>
    intro k i hi hk
    obtain ⟨k, rfl⟩ : ∃ m, k = m + 1 := ⟨k - 1, by omega⟩
    have hlt : i < l.length := by omega
    have hlc : i < (conv l).length := by rw [conv_length]; exact hlt
    have hlen : ((conv l).take i ++ List.replicate (d + 1) z26).length = l.length := by
      rw [List.length_append, List.length_take, List.length_replicate, conv_length]
      omega
    have e1 : wrap64 ((i : Int) + 1) = ((i + 1 : Nat) : Int) := by rw [w64 (by omega)]; rfl
    simp only [laws_toRunnerS.l0, laws_toRunner.f, Option.bind_some]
    rw [if_pos (by omega), if_pos (by omega), hlen, if_pos (by omega), e1]
    have es : ((conv l).take i ++ List.replicate (d + 1) z26).set (i : Int).toNat ⟨(rd_T23 l (i : Int)).f0, (rd_T23 l (i : Int)).f1⟩ = (conv l).take (i + 1) ++ List.replicate d z26 := by
      rw [Int.toNat_natCast, conv_rd l i hlt, List.set_append_right _ _ (by rw [List.length_take]; omega), List.length_take, Nat.min_eq_left (by omega), Nat.sub_self, List.replicate_succ, List.set_cons_zero, List.take_succ_eq_append_getElem hlc, List.append_assoc]
      rfl
    rw [es]
    exact ih k (i + 1) (by omega) (by omega)
theorem laws_toRunnerS_eq (l : List S23) (hl : l.length ≤ 1000000000) (k : Nat) (hk : l.length < k) : laws_toRunnerS.f k l = some (conv l) := by
  unfold laws_toRunnerS.f
  rw [if_pos (Int.natCast_nonneg _), if_pos (by rw [Int.toNat_natCast]; omega), Int.toNat_natCast]
  have := laws_toRunnerS_l0 l hl l.length k 0 (by omega) hk
  simpa using this

theorem laws_eqRunnerS_l0 (l : List S26) (hl : l.length ≤ 1000000000) (d : Nat) : ∀ (k i : Nat), i + d = l.length → d < k → laws_eqRunnerS.l0 k l l (i : Int) = some true := by
  induction d with
  | zero =>
    intro k i hi hk
    obtain ⟨k, rfl⟩ : ∃ m, k = m + 1 := ⟨k - 1, by omega⟩
    simp only [laws_eqRunnerS.l0]
    rw [if_neg (by omega)]
  | succ d ih =>
    intro k i hi hk
    obtain ⟨k, rfl⟩ : ∃ m, k = m + 1 := ⟨k - 1, by omega⟩
    have e1 : wrap64 ((i : Int) + 1) = ((i + 1 : Nat) : Int) := by rw [w64 (by omega)]; rfl
    simp only [laws_eqRunnerS.l0, laws_eqRunner.f, if_true, Option.bind_some]
    rw [if_pos (by omega), if_pos (by omega), if_pos (by omega), e1]
    exact ih k (i + 1) (by omega) (by omega)
theorem laws_eqRunnerS_eq (l : List S26) (hl : l.length ≤ 1000000000) (k : Nat) (hk : l.length < k) : laws_eqRunnerS.f k l l = some true := by
  unfold laws_eqRunnerS.f
  rw [if_pos rfl]
  exact laws_eqRunnerS_l0 l hl l.length k 0 (by omega) hk

theorem spec_trCommon_l0 (n : Nat) : ∀ (k : Nat) (a b : Int), 0 ≤ a → 0 ≤ b → b ≤ n → n < k → spec_trCommon.l0 k a b = some (Int.gcd a b : Int) := by
  induction n with
  | zero =>
    intro k a b ha hb hn hk
    obtain ⟨k, rfl⟩ : ∃ m, k = m + 1 := ⟨k - 1, by omega⟩
    obtain rfl : b = 0 := by omega
    simp only [spec_trCommon.l0]
    rw [if_neg (by omega), Int.gcd_zero_right]
    congr 1
    omega
  | succ n ih =>
    intro k a b ha hb hn hk
    obtain ⟨k, rfl⟩ : ∃ m, k = m + 1 := ⟨k - 1, by omega⟩
    simp only [spec_trCommon.l0]
    by_cases h : b > 0
    · rw [if_pos h, if_neg (by omega)]
      have h1 : 0 ≤ a.tmod b := Int.tmod_nonneg b ha
      have h2 : a.tmod b < b := Int.tmod_lt_of_pos a h
      rw [ih k b (a.tmod b) hb h1 (by omega) (by omega), gcd_step a b ha hb]
    · obtain rfl : b = 0 := by omega
      rw [if_neg h, Int.gcd_zero_right]
      congr 1
      omega
theorem spec_trCommon_eq (k : Nat) (a b : Int) (ha : 0 ≤ a) (hb : 0 ≤ b) (hk : b < k) : spec_trCommon.f k a b = some (Int.gcd a b : Int) := by
  unfold spec_trCommon.f
  exact spec_trCommon_l0 b.toNat k a b ha hb (by omega) (by omega)

def gf (c : Int) : List S26 → Int
  | [] => c
  | x :: r => gf (Int.gcd c x.f1 : Int) r
theorem gcd_range (c v : Int) (hc : 0 < c) : 0 < (Int.gcd c v : Int) ∧ (Int.gcd c v : Int) ≤ c := by
  have h1 := Int.gcd_pos_of_ne_zero_left v (show c ≠ 0 by omega)
  exact ⟨by omega, Int.le_of_dvd hc (Int.gcd_dvd_left c v)⟩
theorem gf_range (l : List S26) : ∀ c : Int, 0 < c → 0 < gf c l ∧ gf c l ≤ c := by
  induction l with
  | nil => exact fun c hc => ⟨hc, Int.le_refl c⟩
  | cons x r ih =>
    intro c hc
    have g := gcd_range c x.f1 hc
    have := ih _ g.1
    exact ⟨this.1, Int.le_trans this.2 g.2⟩
theorem spec_trPeriod_l0 (a : Int) (ha : 2 ≤ a ∧ a ≤ 1000) (l : List S26) (hl : l.length ≤ 6) (hv : ∀ x ∈ l, 1 ≤ x.f1 ∧ x.f1 ≤ 100) (d : Nat) : ∀ (k i : Nat) (c : Int), i + d = l.length → d + 200 < k → 0 < c → c ≤ 1000 →
    spec_trPeriod.l0 k a c l (l.length : Int) (i : Int) = some (a / gf c (l.drop i)) := by
  induction d with
  | zero =>
    intro k i c hi hk h0 h1
    obtain ⟨k, rfl⟩ : ∃ m, k = m + 1 := ⟨k - 1, by omega⟩
    have q0 := Int.ediv_nonneg (show 0 ≤ a by omega) (show 0 ≤ c by omega)
    have q1 := Int.ediv_le_self c (show 0 ≤ a by omega)
    simp only [spec_trPeriod.l0]
    rw [if_neg (by omega), if_neg (by omega), List.drop_of_length_le (by omega), Int.tdiv_eq_ediv_of_nonneg (by omega), w64 (by omega)]
    rfl
  | succ d ih =>
    intro k i c hi hk h0 h1
    obtain ⟨k, rfl⟩ : ∃ m, k = m + 1 := ⟨k - 1, by omega⟩
    have hlt : i < l.length := by omega
    have er : rd_T26 l (i : Int) = l[i] := by simp [rd_T26, hlt]
    have e1 : wrap64 ((i : Int) + 1) = ((i + 1 : Nat) : Int) := by rw [w64 (by omega)]; rfl
    have hx := hv l[i] (List.getElem_mem hlt)
    have g := gcd_range c l[i].f1 h0
    simp only [spec_trPeriod.l0]
    rw [if_pos (by omega), if_pos (by omega), if_pos (by omega), er, spec_trCommon_eq k c l[i].f1 (by omega) (by omega) (by omega), List.drop_eq_getElem_cons hlt]
    simp only [Option.bind_some]
    rw [e1, ih k (i + 1) _ (by omega) (by omega) g.1 (by omega)]
    rfl
theorem spec_trPeriod_eq (a : Int) (ha : 2 ≤ a ∧ a ≤ 1000) (l : List S26) (hl : l.length ≤ 6) (hv : ∀ x ∈ l, 1 ≤ x.f1 ∧ x.f1 ≤ 100) (k : Nat) (hk : 300 < k) : spec_trPeriod.f k a l = some (a / gf a l) := by
  unfold spec_trPeriod.f
  have := spec_trPeriod_l0 a ha l hl hv l.length k 0 a (by omega) (by omega) (by omega) (by omega)
  simpa using this

theorem spec_l1In_eq (a b c : Int) : spec_l1In.f a b c = some (decide (b ≤ a ∧ a ≤ c)) := by
  unfold spec_l1In.f
  by_cases h : b ≤ a <;> simp [h]

theorem spec_trLap_eq (a : Int) : spec_trLap.f a = some (decide (2 ≤ a ∧ a ≤ 1000)) := by
  simp only [spec_trLap.f, spec_l1In_eq, Option.bind_some]

/-- a runner of a track -/
def isRun (a s v : Int) : Prop := (0 ≤ s ∧ s ≤ a - 1) ∧ (1 ≤ v ∧ v ≤ 100)
instance (a s v : Int) : Decidable (isRun a s v) := by unfold isRun; infer_instance
theorem spec_trRunner_eq (a s v : Int) : spec_trRunner.f a s v = some (decide ((2 ≤ a ∧ a ≤ 1000) ∧ isRun a s v)) := by
  simp only [spec_trRunner.f, spec_trLap_eq, spec_l1In_eq, Option.bind_some]
  by_cases h1 : 2 ≤ a ∧ a ≤ 1000
  · rw [w64 (x := a - 1) (by omega)]
    by_cases h2 : 0 ≤ s ∧ s ≤ a - 1
    · by_cases h3 : 1 ≤ v ∧ v ≤ 100
      · have : isRun a s v := ⟨h2, h3⟩
        simp [h1, h2, h3, this]
      · have : ¬ isRun a s v := fun z => h3 z.2
        simp [h1, h2, h3, this]
    · have : ¬ isRun a s v := fun z => h2 z.1
      simp [h1, h2, this]
  · simp [h1]

theorem spec_trList_l0 (a : Int) (l : List S26) (hl : l.length ≤ 1000000000) (d : Nat) : ∀ (k i : Nat), i + d = l.length → d < k →
    spec_trList.l0 k a l (l.length : Int) (i : Int) = some (decide (∀ x ∈ l.drop i, (2 ≤ a ∧ a ≤ 1000) ∧ isRun a x.f0 x.f1)) := by
  induction d with
  | zero =>
    intro k i hi' hk
    obtain ⟨k, rfl⟩ : ∃ m, k = m + 1 := ⟨k - 1, by omega⟩
    simp only [spec_trList.l0]
    rw [if_neg (by omega), List.drop_of_length_le (by omega)]
    simp
  | succ d ih =>
    intro k i hi' hk
    obtain ⟨k, rfl⟩ : ∃ m, k = m + 1 := ⟨k - 1, by omega⟩
    have hlt : i < l.length := by omega
    have er : rd_T26 l (i : Int) = l[i] := by simp [rd_T26, hlt]
    simp only [spec_trList.l0]
    rw [if_pos (by omega), if_pos (by omega), if_pos (by omega), er, spec_trRunner_eq, List.drop_eq_getElem_cons hlt]
    simp only [Option.bind_some]
    have e1 : wrap64 ((i : Int) + 1) = ((i + 1 : Nat) : Int) := by rw [w64 (by omega)]; rfl
    rw [e1, ih k (i + 1) (by omega) (by omega)]
    have e2 : (∀ x ∈ l[i] :: l.drop (i + 1), (2 ≤ a ∧ a ≤ 1000) ∧ isRun a x.f0 x.f1) ↔ (((2 ≤ a ∧ a ≤ 1000) ∧ isRun a l[i].f0 l[i].f1) ∧ ∀ x ∈ l.drop (i + 1), (2 ≤ a ∧ a ≤ 1000) ∧ isRun a x.f0 x.f1) := List.forall_mem_cons
    by_cases h : (2 ≤ a ∧ a ≤ 1000) ∧ isRun a l[i].f0 l[i].f1
    · rw [decide_eq_true h, if_pos rfl]
      exact congrArg some (decide_eq_decide.mpr (e2.trans ⟨fun z => z.2, fun z => ⟨h, z⟩⟩).symm)
    · rw [decide_eq_false h, if_neg Bool.false_ne_true]
      exact congrArg some (decide_eq_false (fun z => h (e2.1 z).1)).symm
theorem spec_trList_iff (a : Int) (l : List S26) (hl : l.length ≤ 1000000000) (k : Nat) (hk : l.length < k) : ∃ b, spec_trList.f k a l = some b ∧ (b = true ↔ ((1 ≤ l.length ∧ l.length ≤ 6) ∧ ∀ x ∈ l, (2 ≤ a ∧ a ≤ 1000) ∧ isRun a x.f0 x.f1)) := by
  unfold spec_trList.f
  rw [spec_l1In_eq]
  simp only [Option.bind_some]
  by_cases h : 1 ≤ (l.length : Int) ∧ (l.length : Int) ≤ 6
  · have := spec_trList_l0 a l hl l.length k 0 (by omega) hk
    refine ⟨_, by rw [decide_eq_true h, if_pos rfl]; exact this, ?_⟩
    rw [decide_eq_true_eq, List.drop_zero]
    exact ⟨fun z => ⟨by omega, z⟩, fun z => z.2⟩
  · refine ⟨false, by rw [decide_eq_false h]; rfl, ?_⟩
    constructor
    · intro z
      cases z
    · intro z
      exact absurd (by have := z.1; omega) h

theorem spec_trFar_eq (s v t : Int) (hs : 0 ≤ s ∧ s ≤ 999) (hv : 1 ≤ v ∧ v ≤ 100) (ht : 0 ≤ t ∧ t ≤ 1000000) : spec_trFar.f s v t = some (s + v * t) := by
  have p := bm (A := 100) (B := 1000000) (a := v) (b := t) (by omega) ht
  unfold spec_trFar.f
  rw [w64 (x := v * t) (by omega), w64 (x := s + v * t) (by omega)]
theorem far_range (s v t : Int) (hs : 0 ≤ s ∧ s ≤ 999) (hv : 1 ≤ v ∧ v ≤ 100) (ht : 0 ≤ t ∧ t ≤ 1000000) : 0 ≤ s + v * t ∧ s + v * t ≤ 100000999 := by
  have p := bm (A := 100) (B := 1000000) (a := v) (b := t) (by omega) ht
  omega

theorem spec_trPlace_eq (a s v t : Int) (ha : 2 ≤ a ∧ a ≤ 1000) (hs : 0 ≤ s ∧ s ≤ 999) (hv : 1 ≤ v ∧ v ≤ 100) (ht : 0 ≤ t ∧ t ≤ 1000000) : spec_trPlace.f a s v t = some ((s + v * t) % a) := by
  have p := far_range s v t hs hv ht
  unfold spec_trPlace.f
  rw [spec_trFar_eq s v t hs hv ht]
  simp only [Option.bind_some]
  rw [if_neg (by omega), Int.tmod_eq_emod_of_nonneg p.1]

theorem spec_l1Least_eq (a b : Int) : spec_l1Least.f a b = some (if a < b then a else b) := by
  unfold spec_l1Least.f
  split <;> rfl

theorem spec_l1Most_eq (a b : Int) : spec_l1Most.f a b = some (if a > b then a else b) := by
  unfold spec_l1Most.f
  split <;> rfl

theorem spec_l1Abs_eq (a : Int) (h : -9223372036854775807 ≤ a ∧ a ≤ 9223372036854775807) : spec_l1Abs.f a = some (Int.natAbs a : Int) := by
  unfold spec_l1Abs.f
  rw [w64 (by omega), spec_l1Most_eq]
  simp only [Option.bind_some, Option.some.injEq]
  split <;> omega

/-- the shorter way around -/
def dist (a p q : Int) : Int := min ((p - q) % a) (a - (p - q) % a)
def farX (x : S26) (t : Int) : Int := x.f0 + x.f1 * t
def nst (a t : Int) (n : Nat) (y : S26) (best : Int) (i : Nat) : List S26 → Int
  | [] => best
  | x :: r => nst a t n y (if i = n then best else min best (dist a (farX x t) (farX y t))) (i + 1) r
theorem dist_range (a p q : Int) (ha : 2 ≤ a ∧ a ≤ 1000) : 0 ≤ dist a p q ∧ dist a p q ≤ 1000 := by
  have r1 := Int.emod_nonneg (p - q) (show a ≠ 0 by omega)
  have r2 := Int.emod_lt_of_pos (p - q) (show 0 < a by omega)
  unfold dist
  omega
theorem nst_range (a t : Int) (ha : 2 ≤ a ∧ a ≤ 1000) (n : Nat) (y : S26) (l : List S26) : ∀ (best : Int) (i : Nat), 0 ≤ best ∧ best ≤ 1000 → 0 ≤ nst a t n y best i l ∧ nst a t n y best i l ≤ 1000 := by
  induction l with
  | nil => exact fun _ _ h => h
  | cons x r ih =>
    intro best i h
    refine ih _ _ ?_
    have := dist_range a (farX x t) (farX y t) ha
    split <;> omega
/-- as it is told by both places -/
theorem dist_places (a p q : Int) (ha : 2 ≤ a ∧ a ≤ 1000) : min ((p % a - q % a).natAbs : Int) (a - ((p % a - q % a).natAbs : Int)) = dist a p q := by
  have r1 := Int.emod_nonneg p (show a ≠ 0 by omega)
  have r2 := Int.emod_lt_of_pos p (show 0 < a by omega)
  have r3 := Int.emod_nonneg q (show a ≠ 0 by omega)
  have r4 := Int.emod_lt_of_pos q (show 0 < a by omega)
  unfold dist
  rw [Int.sub_emod p q a]
  generalize p % a = x at *
  generalize q % a = y at *
  by_cases h : y ≤ x
  · rw [Int.emod_eq_of_lt (a := x - y) (by omega) (by omega)]
    omega
  · have e : (x - y) % a = x - y + a := ((Int.ediv_emod_unique (a := x - y) (q := -1) (r := x - y + a) (show 0 < a by omega)).2 ⟨by omega, by omega, by omega⟩).2
    rw [e]
    omega
theorem spec_trNearest_l0 (a : Int) (ha : 2 ≤ a ∧ a ≤ 1000) (l : List S26) (hl : l.length ≤ 6) (hv : ∀ x ∈ l, isRun a x.f0 x.f1) (n : Nat) (hn : n < l.length) (t : Int) (ht : 0 ≤ t ∧ t ≤ 1000000) (d : Nat) : ∀ (k i : Nat) (best : Int), i + d = l.length → d < k → 0 ≤ best ∧ best ≤ 1000 →
    spec_trNearest.l0 k a l (n : Int) t best l (l.length : Int) (i : Int) = some (nst a t n l[n] best i (l.drop i)) := by
  induction d with
  | zero =>
    intro k i best hi hk h0
    obtain ⟨k, rfl⟩ : ∃ m, k = m + 1 := ⟨k - 1, by omega⟩
    simp only [spec_trNearest.l0]
    rw [if_neg (by omega), List.drop_of_length_le (by omega)]
    rfl
  | succ d ih =>
    intro k i best hi hk h0
    obtain ⟨k, rfl⟩ : ∃ m, k = m + 1 := ⟨k - 1, by omega⟩
    have hlt : i < l.length := by omega
    have er : rd_T26 l (i : Int) = l[i] := by simp [rd_T26, hlt]
    have en : rd_T26 l (n : Int) = l[n] := by simp [rd_T26, hn]
    have e1 : wrap64 ((i : Int) + 1) = ((i + 1 : Nat) : Int) := by rw [w64 (by omega)]; rfl
    have hx := hv l[i] (List.getElem_mem hlt)
    have hy := hv l[n] (List.getElem_mem hn)
    unfold isRun at hx hy
    simp only [spec_trNearest.l0]
    rw [if_pos (by omega), if_pos (by omega), if_pos (by omega), e1, er, en, List.drop_eq_getElem_cons hlt]
    by_cases z : i = n
    · rw [if_pos (by omega), ih k (i + 1) best (by omega) (by omega) h0]
      show _ = some (nst a t n l[n] (if i = n then best else _) (i + 1) _)
      rw [if_pos z]
    · have dd := dist_places a (farX l[i] t) (farX l[n] t) ha
      have dr := dist_range a (farX l[i] t) (farX l[n] t) ha
      have r1 := Int.emod_nonneg (farX l[i] t) (show a ≠ 0 by omega)
      have r2 := Int.emod_lt_of_pos (farX l[i] t) (show 0 < a by omega)
      have r3 := Int.emod_nonneg (farX l[n] t) (show a ≠ 0 by omega)
      have r4 := Int.emod_lt_of_pos (farX l[n] t) (show 0 < a by omega)
      rw [if_neg (by omega), spec_trPlace_eq a _ _ t ha (by omega) hx.2 ht]
      simp only [Option.bind_some]
      rw [if_pos (by omega), if_pos (by omega), spec_trPlace_eq a _ _ t ha (by omega) hy.2 ht]
      simp only [Option.bind_some]
      change ((spec_l1Abs.f (wrap64 (farX l[i] t % a - farX l[n] t % a))).bind _) = _
      generalize farX l[i] t % a = x at *
      generalize farX l[n] t % a = y at *
      rw [w64 (x := x - y) (by omega), spec_l1Abs_eq _ (by omega)]
      simp only [Option.bind_some]
      rw [w64 (by omega), spec_l1Least_eq]
      simp only [Option.bind_some]
      rw [spec_l1Least_eq]
      simp only [Option.bind_some]
      have eb : (if best < (if ((x - y).natAbs : Int) < a - ((x - y).natAbs : Int) then ((x - y).natAbs : Int) else a - ((x - y).natAbs : Int)) then best else (if ((x - y).natAbs : Int) < a - ((x - y).natAbs : Int) then ((x - y).natAbs : Int) else a - ((x - y).natAbs : Int))) = min best (dist a (farX l[i] t) (farX l[n] t)) := by
        rw [← dd]
        split <;> split <;> omega
      rw [eb, ih k (i + 1) _ (by omega) (by omega) (by omega)]
      show _ = some (nst a t n l[n] (if i = n then best else _) (i + 1) _)
      rw [if_neg z]
theorem spec_trNearest_eq (a : Int) (ha : 2 ≤ a ∧ a ≤ 1000) (l : List S26) (hl : l.length ≤ 6) (hv : ∀ x ∈ l, isRun a x.f0 x.f1) (n : Nat) (hn : n < l.length) (t : Int) (ht : 0 ≤ t ∧ t ≤ 1000000) (k : Nat) (hk : 10 < k) :
    spec_trNearest.f k a l (n : Int) t = some (nst a t n l[n] a 0 l) := by
  unfold spec_trNearest.f
  have := spec_trNearest_l0 a ha l hl hv n hn t ht l.length k 0 a (by omega) (by omega) (by omega)
  simpa using this

theorem impl_divisorOf_l0 (n : Nat) : ∀ (k : Nat) (a b : Int), 0 ≤ a → 0 ≤ b → b ≤ n → n < k → impl_divisorOf.l0 k a b = some (Int.gcd a b : Int) := by
  induction n with
  | zero =>
    intro k a b ha hb hn hk
    obtain ⟨k, rfl⟩ : ∃ m, k = m + 1 := ⟨k - 1, by omega⟩
    obtain rfl : b = 0 := by omega
    simp only [impl_divisorOf.l0]
    rw [if_neg (by omega), Int.gcd_zero_right]
    congr 1
    omega
  | succ n ih =>
    intro k a b ha hb hn hk
    obtain ⟨k, rfl⟩ : ∃ m, k = m + 1 := ⟨k - 1, by omega⟩
    simp only [impl_divisorOf.l0]
    by_cases h : b > 0
    · rw [if_pos h, if_neg (by omega)]
      have h1 : 0 ≤ a.tmod b := Int.tmod_nonneg b ha
      have h2 : a.tmod b < b := Int.tmod_lt_of_pos a h
      rw [ih k b (a.tmod b) hb h1 (by omega) (by omega), gcd_step a b ha hb]
    · obtain rfl : b = 0 := by omega
      rw [if_neg h, Int.gcd_zero_right]
      congr 1
      omega
theorem impl_divisorOf_eq (k : Nat) (a b : Int) (ha : 0 ≤ a) (hb : 0 ≤ b) (hk : b < k) : impl_divisorOf.f k a b = some (Int.gcd a b : Int) := by
  unfold impl_divisorOf.f
  exact impl_divisorOf_l0 b.toNat k a b ha hb (by omega) (by omega)

theorem impl_runPeriod_l0 (a : Int) (ha : 2 ≤ a ∧ a ≤ 1000) (l : List S26) (hl : l.length ≤ 6) (hv : ∀ x ∈ l, 1 ≤ x.f1 ∧ x.f1 ≤ 100) (d : Nat) : ∀ (k i : Nat) (c : Int), i + d = l.length → d + 200 < k → 0 < c → c ≤ 1000 →
    impl_runPeriod.l0 k a c l (l.length : Int) (i : Int) = some (a / gf c (l.drop i)) := by
  induction d with
  | zero =>
    intro k i c hi hk h0 h1
    obtain ⟨k, rfl⟩ : ∃ m, k = m + 1 := ⟨k - 1, by omega⟩
    have q0 := Int.ediv_nonneg (show 0 ≤ a by omega) (show 0 ≤ c by omega)
    have q1 := Int.ediv_le_self c (show 0 ≤ a by omega)
    simp only [impl_runPeriod.l0]
    rw [if_neg (by omega), if_neg (by omega), List.drop_of_length_le (by omega), Int.tdiv_eq_ediv_of_nonneg (by omega), w64 (by omega)]
    rfl
  | succ d ih =>
    intro k i c hi hk h0 h1
    obtain ⟨k, rfl⟩ : ∃ m, k = m + 1 := ⟨k - 1, by omega⟩
    have hlt : i < l.length := by omega
    have er : rd_T26 l (i : Int) = l[i] := by simp [rd_T26, hlt]
    have e1 : wrap64 ((i : Int) + 1) = ((i + 1 : Nat) : Int) := by rw [w64 (by omega)]; rfl
    have hx := hv l[i] (List.getElem_mem hlt)
    have g := gcd_range c l[i].f1 h0
    simp only [impl_runPeriod.l0]
    rw [if_pos (by omega), if_pos (by omega), if_pos (by omega), er, impl_divisorOf_eq k c l[i].f1 (by omega) (by omega) (by omega), List.drop_eq_getElem_cons hlt]
    simp only [Option.bind_some]
    rw [e1, ih k (i + 1) _ (by omega) (by omega) g.1 (by omega)]
    rfl
theorem impl_runPeriod_eq (a : Int) (ha : 2 ≤ a ∧ a ≤ 1000) (l : List S26) (hl : l.length ≤ 6) (hv : ∀ x ∈ l, 1 ≤ x.f1 ∧ x.f1 ≤ 100) (k : Nat) (hk : 300 < k) : impl_runPeriod.f k a l = some (a / gf a l) := by
  unfold impl_runPeriod.f
  have := impl_runPeriod_l0 a ha l hl hv l.length k 0 a (by omega) (by omega) (by omega) (by omega)
  simpa using this

theorem impl_within_eq (a b c : Int) : impl_within.f a b c = some (decide (b ≤ a ∧ a ≤ c)) := by
  unfold impl_within.f
  by_cases h : b ≤ a <;> simp [h]

theorem impl_isRunner_eq (a s v : Int) (h1 : 2 ≤ a ∧ a ≤ 1000) : impl_isRunner.f a s v = some (decide (isRun a s v)) := by
  simp only [impl_isRunner.f, impl_within_eq, Option.bind_some]
  rw [w64 (x := a - 1) (by omega)]
  by_cases h2 : 0 ≤ s ∧ s ≤ a - 1
  · by_cases h3 : 1 ≤ v ∧ v ≤ 100
    · have : isRun a s v := ⟨h2, h3⟩
      simp [h2, h3, this]
    · have : ¬ isRun a s v := fun z => h3 z.2
      simp [h2, h3, this]
  · have : ¬ isRun a s v := fun z => h2 z.1
    simp [h2, this]

theorem noRun_eq (a : Int) (x : S26) (h1 : 2 ≤ a ∧ a ≤ 1000) : noRun a x = !(decide (isRun a x.f0 x.f1)) := by
  unfold noRun
  rw [impl_isRunner_eq a x.f0 x.f1 h1]
  rfl
/-- runners of a track -/
def areRun (a : Int) (l : List S26) : Prop := (2 ≤ a ∧ a ≤ 1000) ∧ (1 ≤ l.length ∧ l.length ≤ 6) ∧ ∀ x ∈ l, isRun a x.f0 x.f1
instance (a : Int) (l : List S26) : Decidable (areRun a l) := by unfold areRun; infer_instance
theorem impl_AreRunners_eq (a : Int) (l : List S26) : impl_AreRunners.f a l = some (decide (areRun a l)) := by
  unfold impl_AreRunners.f
  rw [impl_within_eq, impl_within_eq]
  simp only [Option.bind_some]
  by_cases h1 : 2 ≤ a ∧ a ≤ 1000
  · by_cases h2 : 1 ≤ (l.length : Int) ∧ (l.length : Int) ≤ 6
    · simp only [h1, h2, and_self, decide_true, if_true, Option.some.injEq]
      by_cases h3 : ∀ x ∈ l, isRun a x.f0 x.f1
      · have z : areRun a l := ⟨h1, by omega, h3⟩
        rw [decide_eq_true z, Bool.not_eq_true', List.any_eq_false]
        intro x hx
        rw [noRun_eq a x h1]
        simp [h3 x hx]
      · have z : ¬ areRun a l := fun y => h3 y.2.2
        rw [decide_eq_false z, Bool.not_eq_false', List.any_eq_true]
        have ⟨x, hx⟩ := Classical.not_forall.mp h3
        have ⟨hm, hn⟩ := Classical.not_imp.mp hx
        exact ⟨x, hm, by rw [noRun_eq a x h1]; simp [hn]⟩
    · have z : ¬ areRun a l := fun y => h2 (by have := y.2.1; omega)
      simp only [h1, h2, and_self, decide_true, decide_false, if_true, Bool.false_eq_true, if_false, decide_eq_false z]
  · have z : ¬ areRun a l := fun y => h1 y.1
    simp only [h1, decide_false, Bool.false_eq_true, if_false, decide_eq_false z]

theorem impl_farAt_eq (s v t : Int) (hs : 0 ≤ s ∧ s ≤ 999) (hv : 1 ≤ v ∧ v ≤ 100) (ht : 0 ≤ t ∧ t ≤ 1000000) : impl_farAt.f s v t = some (s + v * t) := by
  have p := bm (A := 100) (B := 1000000) (a := v) (b := t) (by omega) ht
  unfold impl_farAt.f
  rw [w64 (x := v * t) (by omega), w64 (x := s + v * t) (by omega)]

theorem ediv_range (n b : Int) (hb : 1 ≤ b) (hn : -1000000000000 ≤ n ∧ n ≤ 1000000000000) : -1000000000000 ≤ n / b ∧ n / b ≤ 1000000000000 := by
  constructor
  · apply Int.le_ediv_of_mul_le (by omega)
    omega
  · rcases Int.le_total 0 n with z | z
    · have := Int.ediv_le_self b z
      omega
    · have := Int.ediv_le_ediv (show 0 < b by omega) z
      rw [Int.zero_ediv] at this
      omega
theorem impl_floorDiv_eq (n b : Int) (hb : 1 ≤ b) (hn : -1000000000000 ≤ n ∧ n ≤ 1000000000000) : impl_floorDiv.f n b = some (n / b) := by
  have lo := ediv_range n b hb hn
  unfold impl_floorDiv.f
  rw [if_neg (by omega)]
  by_cases h : 0 ≤ n
  · have r1 := Int.emod_nonneg n (show b ≠ 0 by omega)
    rw [Int.tmod_eq_emod_of_nonneg h, if_neg (by omega), Int.tdiv_eq_ediv_of_nonneg h, w64 (by omega)]
  · obtain ⟨m, rfl⟩ : ∃ m, n = -m := ⟨-n, by omega⟩
    have hm : 0 ≤ m := by omega
    have q2 := Int.mul_ediv_add_emod m b
    have s1 := Int.emod_nonneg m (show b ≠ 0 by omega)
    have s2 := Int.emod_lt_of_pos m (show 0 < b by omega)
    have g := Int.ediv_le_self b hm
    have g0 := Int.ediv_nonneg hm (show 0 ≤ b by omega)
    rw [Int.neg_tmod, Int.neg_tdiv, Int.tmod_eq_emod_of_nonneg hm, Int.tdiv_eq_ediv_of_nonneg hm]
    by_cases z : m % b = 0
    · have e : -m / b = -(m / b) := ((Int.ediv_emod_unique (r := 0) (show 0 < b by omega)).2 ⟨by rw [Int.mul_neg]; omega, by omega, by omega⟩).1
      rw [if_neg (by omega), e, w64 (by omega)]
    · have e : -m / b = -(m / b) - 1 := ((Int.ediv_emod_unique (r := b - m % b) (show 0 < b by omega)).2 ⟨by rw [Int.mul_sub, Int.mul_neg]; omega, by omega, by omega⟩).1
      rw [if_pos (by omega), e, w64 (x := -(m / b)) (by omega), w64 (by omega)]

theorem impl_around_eq (n b : Int) (hb : 1 ≤ b ∧ b ≤ 1000) (hn : -1000000000000 ≤ n ∧ n ≤ 1000000000000) : impl_around.f n b = some (n % b) := by
  have q := Int.mul_ediv_add_emod n b
  have r1 := Int.emod_nonneg n (show b ≠ 0 by omega)
  have r2 := Int.emod_lt_of_pos n (show 0 < b by omega)
  unfold impl_around.f
  rw [impl_floorDiv_eq n b hb.1 hn]
  simp only [Option.bind_some]
  generalize b * (n / b) = u at *
  rw [w64 (x := u) (by omega), w64 (by omega)]
  congr 1
  omega

theorem impl_nearestOther_l0 (a : Int) (ha : 2 ≤ a ∧ a ≤ 1000) (l : List S26) (hl : l.length ≤ 6) (hv : ∀ x ∈ l, isRun a x.f0 x.f1) (n : Nat) (hn : n < l.length) (t : Int) (ht : 0 ≤ t ∧ t ≤ 1000000) (d : Nat) : ∀ (k i : Nat) (best : Int), i + d = l.length → d < k → 0 ≤ best ∧ best ≤ 1000 →
    impl_nearestOther.l0 k a l (n : Int) t best l (l.length : Int) (i : Int) = some (nst a t n l[n] best i (l.drop i)) := by
  induction d with
  | zero =>
    intro k i best hi hk h0
    obtain ⟨k, rfl⟩ : ∃ m, k = m + 1 := ⟨k - 1, by omega⟩
    simp only [impl_nearestOther.l0]
    rw [if_neg (by omega), List.drop_of_length_le (by omega)]
    rfl
  | succ d ih =>
    intro k i best hi hk h0
    obtain ⟨k, rfl⟩ : ∃ m, k = m + 1 := ⟨k - 1, by omega⟩
    have hlt : i < l.length := by omega
    have er : rd_T26 l (i : Int) = l[i] := by simp [rd_T26, hlt]
    have en : rd_T26 l (n : Int) = l[n] := by simp [rd_T26, hn]
    have e1 : wrap64 ((i : Int) + 1) = ((i + 1 : Nat) : Int) := by rw [w64 (by omega)]; rfl
    have hx := hv l[i] (List.getElem_mem hlt)
    have hy := hv l[n] (List.getElem_mem hn)
    unfold isRun at hx hy
    simp only [impl_nearestOther.l0]
    rw [if_pos (by omega), if_pos (by omega), if_pos (by omega), e1, er, en, List.drop_eq_getElem_cons hlt]
    by_cases z : i = n
    · rw [if_pos (by omega), ih k (i + 1) best (by omega) (by omega) h0]
      show _ = some (nst a t n l[n] (if i = n then best else _) (i + 1) _)
      rw [if_pos z]
    · have dr := dist_range a (farX l[i] t) (farX l[n] t) ha
      have f1 := far_range l[i].f0 l[i].f1 t (by omega) hx.2 ht
      have f2 := far_range l[n].f0 l[n].f1 t (by omega) hy.2 ht
      rw [if_neg (by omega), impl_farAt_eq _ _ t (by omega) hx.2 ht]
      simp only [Option.bind_some]
      rw [if_pos (by omega), if_pos (by omega), impl_farAt_eq _ _ t (by omega) hy.2 ht]
      simp only [Option.bind_some]
      change ((impl_around.f (wrap64 (farX l[i] t - farX l[n] t)) a).bind _) = _
      change 0 ≤ farX l[i] t ∧ farX l[i] t ≤ _ at f1
      change 0 ≤ farX l[n] t ∧ farX l[n] t ≤ _ at f2
      rw [w64 (by omega), impl_around_eq _ a (by omega) (by omega)]
      simp only [Option.bind_some]
      have r1 := Int.emod_nonneg (farX l[i] t - farX l[n] t) (show a ≠ 0 by omega)
      have r2 := Int.emod_lt_of_pos (farX l[i] t - farX l[n] t) (show 0 < a by omega)
      have eb : mn (mn best ((farX l[i] t - farX l[n] t) % a)) (wrap64 (a - (farX l[i] t - farX l[n] t) % a)) = min best (dist a (farX l[i] t) (farX l[n] t)) := by
        rw [w64 (by omega)]
        unfold mn dist
        split <;> split <;> omega
      rw [eb, ih k (i + 1) _ (by omega) (by omega) (by omega)]
      show _ = some (nst a t n l[n] (if i = n then best else _) (i + 1) _)
      rw [if_neg z]
theorem impl_nearestOther_eq (a : Int) (ha : 2 ≤ a ∧ a ≤ 1000) (l : List S26) (hl : l.length ≤ 6) (hv : ∀ x ∈ l, isRun a x.f0 x.f1) (n : Nat) (hn : n < l.length) (t : Int) (ht : 0 ≤ t ∧ t ≤ 1000000) (k : Nat) (hk : 10 < k) :
    impl_nearestOther.f k a l (n : Int) t = some (nst a t n l[n] a 0 l) := by
  unfold impl_nearestOther.f
  have := impl_nearestOther_l0 a ha l hl hv n hn t ht l.length k 0 a (by omega) (by omega) (by omega)
  simpa using this

theorem spec_trList_eq (a : Int) (l : List S26) (hl : l.length ≤ 1000000000) (k : Nat) (hk : l.length < k) : spec_trList.f k a l = some (decide (areRun a l)) := by
  obtain ⟨b, h1, h2⟩ := spec_trList_iff a l hl k hk
  rw [h1]
  congr 1
  rw [Bool.eq_iff_iff, decide_eq_true_eq, h2]
  unfold areRun
  constructor
  · rintro ⟨y, z⟩
    have ⟨q, hq⟩ : ∃ q, q ∈ l := List.exists_mem_of_length_pos (by omega)
    exact ⟨(z q hq).1, y, fun q hq => (z q hq).2⟩
  · rintro ⟨x, y, z⟩
    exact ⟨y, fun q hq => ⟨x, z q hq⟩⟩
def asked (a : Int) (l : List S26) (n : Int) : Prop := areRun a l ∧ 1 < l.length ∧ 0 ≤ n ∧ n ≤ (l.length : Int) - 1
instance (a : Int) (l : List S26) (n : Int) : Decidable (asked a l n) := by unfold asked; infer_instance
theorem spec_trAsked_eq (a : Int) (l : List S26) (n : Int) (hl : l.length ≤ 1000000000) (k : Nat) (hk : l.length < k) : spec_trAsked.f k a l n = some (decide (asked a l n)) := by
  unfold spec_trAsked.f
  rw [spec_trList_eq a l hl k hk, w64 (by omega), spec_l1In_eq]
  simp only [Option.bind_some]
  by_cases h1 : areRun a l
  · by_cases h2 : (l.length : Int) > 1
    · rw [decide_eq_true h1, if_pos rfl, if_pos h2]
      exact congrArg some (decide_eq_decide.mpr ⟨fun z => ⟨h1, by omega, z⟩, fun z => z.2.2⟩)
    · rw [decide_eq_true h1, if_pos rfl, if_neg h2]
      exact congrArg some (decide_eq_false (fun z => by have := z.2.1; omega)).symm
  · rw [decide_eq_false h1, if_neg Bool.false_ne_true]
    exact congrArg some (decide_eq_false (fun z => h1 z.1)).symm
theorem impl_areRunnersOf_eq (a : Int) (l : List S26) (n : Int) (hl : l.length ≤ 1000000000) : impl_areRunnersOf.f a l n = some (decide (asked a l n)) := by
  unfold impl_areRunnersOf.f
  rw [impl_AreRunners_eq, w64 (by omega), impl_within_eq]
  simp only [Option.bind_some]
  by_cases h1 : areRun a l
  · by_cases h2 : (l.length : Int) > 1
    · rw [decide_eq_true h1, if_pos rfl, if_pos h2]
      exact congrArg some (decide_eq_decide.mpr ⟨fun z => ⟨h1, by omega, z⟩, fun z => z.2.2⟩)
    · rw [decide_eq_true h1, if_pos rfl, if_neg h2]
      exact congrArg some (decide_eq_false (fun z => by have := z.2.1; omega)).symm
  · rw [decide_eq_false h1, if_neg Bool.false_ne_true]
    exact congrArg some (decide_eq_false (fun z => h1 z.1)).symm
/-- the first time at which N is greatest, from a time on -/
def lt (N : Int → Int) : Nat → Int → Int → Int
  | 0, best, _ => best
  | d + 1, best, t => lt N d (if N t > N best then t else best) (t + 1)
theorem spec_lonely_l0 (a : Int) (ha : 2 ≤ a ∧ a ≤ 1000) (l : List S26) (hl : l.length ≤ 6) (hv : ∀ x ∈ l, isRun a x.f0 x.f1) (n : Nat) (hn : n < l.length) (d : Nat) : ∀ (k : Nat) (best t : Int), t + d = a / gf a l → d + 400 < k → 0 ≤ best ∧ best ≤ 1000 → 0 ≤ t →
    spec_LonelyTime.l0 k a l (n : Int) best t = some (lt (fun t => nst a t n l[n] a 0 l) d best t, true) := by
  have gr := gf_range l a (by omega)
  have p1 := Int.ediv_le_self (gf a l) (show 0 ≤ a by omega)
  induction d with
  | zero =>
    intro k best t hd hk h0 ht
    obtain ⟨k, rfl⟩ : ∃ m, k = m + 1 := ⟨k - 1, by omega⟩
    simp only [spec_LonelyTime.l0]
    rw [spec_trPeriod_eq a ha l hl (fun x hx => (hv x hx).2) k (by omega)]
    simp only [Option.bind_some]
    rw [if_neg (by omega)]
    rfl
  | succ d ih =>
    intro k best t hd hk h0 ht
    obtain ⟨k, rfl⟩ : ∃ m, k = m + 1 := ⟨k - 1, by omega⟩
    simp only [spec_LonelyTime.l0]
    rw [spec_trPeriod_eq a ha l hl (fun x hx => (hv x hx).2) k (by omega)]
    simp only [Option.bind_some]
    rw [if_pos (by omega), spec_trNearest_eq a ha l hl hv n hn t (by omega) k (by omega)]
    simp only [Option.bind_some]
    rw [spec_trNearest_eq a ha l hl hv n hn best (by omega) k (by omega)]
    simp only [Option.bind_some]
    rw [w64 (x := t + 1) (by omega)]
    show _ = some (lt _ d (if _ > _ then t else best) (t + 1), true)
    by_cases z : nst a t n l[n] a 0 l > nst a best n l[n] a 0 l
    · rw [if_pos z, if_pos z]
      exact ih k t (t + 1) (by omega) (by omega) (by omega) (by omega)
    · rw [if_neg z, if_neg z]
      exact ih k best (t + 1) (by omega) (by omega) (by omega) (by omega)
theorem impl_lonely_l0 (a : Int) (ha : 2 ≤ a ∧ a ≤ 1000) (l : List S26) (hl : l.length ≤ 6) (hv : ∀ x ∈ l, isRun a x.f0 x.f1) (n : Nat) (hn : n < l.length) (p : Int) (hp : p ≤ 1000) (d : Nat) : ∀ (k : Nat) (best t : Int), t + d = p → d + 400 < k → 0 ≤ t →
    impl_LonelyTime.l0 k a l (n : Int) best (nst a best n l[n] a 0 l) p t = some (lt (fun t => nst a t n l[n] a 0 l) d best t, true) := by
  induction d with
  | zero =>
    intro k best t hd hk ht
    obtain ⟨k, rfl⟩ : ∃ m, k = m + 1 := ⟨k - 1, by omega⟩
    simp only [impl_LonelyTime.l0]
    rw [if_neg (by omega)]
    rfl
  | succ d ih =>
    intro k best t hd hk ht
    obtain ⟨k, rfl⟩ : ∃ m, k = m + 1 := ⟨k - 1, by omega⟩
    simp only [impl_LonelyTime.l0]
    rw [if_pos (by omega), impl_nearestOther_eq a ha l hl hv n hn t (by omega) k (by omega)]
    simp only [Option.bind_some]
    rw [w64 (x := t + 1) (by omega)]
    show _ = some (lt _ d (if _ > _ then t else best) (t + 1), true)
    by_cases z : nst a t n l[n] a 0 l > nst a best n l[n] a 0 l
    · rw [if_pos z, if_pos z]
      exact ih k t (t + 1) (by omega) (by omega) (by omega)
    · rw [if_neg z, if_neg z]
      exact ih k best (t + 1) (by omega) (by omega) (by omega)
theorem lonely_both (a : Int) (ha : 2 ≤ a ∧ a ≤ 1000) (l : List S26) (hl : l.length ≤ 6) (hv : ∀ x ∈ l, isRun a x.f0 x.f1) (n : Nat) (hn : n < l.length) (k : Nat) (hk : 2000 < k) :
    ∃ r, spec_LonelyTime.l0 k a l (n : Int) 0 1 = some (r, true) ∧ impl_LonelyTime.l0 k a l (n : Int) 0 (-1) (a / gf a l) 0 = some (r, true) := by
  have gr := gf_range l a (by omega)
  have p1 := Int.ediv_le_self (gf a l) (show 0 ≤ a by omega)
  have p2 : 1 ≤ a / gf a l := by
    apply Int.le_ediv_of_mul_le gr.1
    omega
  obtain ⟨d, hd⟩ : ∃ d : Nat, (1 : Int) + d = a / gf a l := ⟨(a / gf a l - 1).toNat, by omega⟩
  refine ⟨_, spec_lonely_l0 a ha l hl hv n hn d k 0 1 hd (by omega) (by omega) (by omega), ?_⟩
  obtain ⟨k, rfl⟩ : ∃ m, k = m + 1 := ⟨k - 1, by omega⟩
  have nn := nst_range a 0 ha n l[n] l a 0 (by omega)
  simp only [impl_LonelyTime.l0]
  rw [if_pos (by omega), impl_nearestOther_eq a ha l hl hv n hn 0 (by omega) k (by omega)]
  simp only [Option.bind_some]
  rw [if_pos (by omega), w64 (by omega)]
  exact impl_lonely_l0 a ha l hl hv n hn _ (by omega) d k 0 (0 + 1) (by omega) (by omega) (by omega)
theorem holds (a : Int) (l : List S23) (n : Int) (_ : (Lit.int .i64 a).wf = true) (hm : l.length ≤ 9223372036854775807) (_ : (Lit.int .i64 n).wf = true) : ∃ k, laws_FnExactLonelyTime.f k a l n = some true := by
  by_cases hb : 1048576 < l.length
  · exact ⟨0, by simp [laws_FnExactLonelyTime.f, laws_szRunnerS_eq l hm, hb]⟩
  · obtain ⟨k, hk⟩ : ∃ k : Nat, 1048577 < k := ⟨1048578, by decide⟩
    refine ⟨k + 1, ?_⟩
    have hc : (conv l).length = l.length := conv_length l
    have h4 : ¬ (1048576 - (l.length : Int)) < 0 := by omega
    have e1 := laws_toRunnerS_eq l (by omega) (k + 1) (by omega)
    have e2 := laws_toRunnerS_eq l (by omega) k (by omega)
    have e3 := laws_eqRunnerS_eq (conv l) (by omega) k (by omega)
    have e4 := spec_trAsked_eq a (conv l) n (by omega) (k + 1) (by omega)
    have e5 := impl_areRunnersOf_eq a (conv l) n (by omega)
    by_cases h : asked a (conv l) n
    · rw [decide_eq_true h] at e4 e5
      obtain ⟨⟨g1, g2, g3⟩, g4, g5⟩ := h
      obtain ⟨m, rfl⟩ := Int.eq_ofNat_of_zero_le g5.1
      obtain ⟨r, e6, e7⟩ := lonely_both a g1 (conv l) g2.2 g3 m (by omega) (k + 1) (by omega)
      have e8 := impl_runPeriod_eq a g1 (conv l) g2.2 (fun x hx => (g3 x hx).2) (k + 1) (by omega)
      simp [laws_FnExactLonelyTime.f, laws_szRunnerS_eq l hm, hb, h4, e1, e2, e3, spec_LonelyTime.f, impl_LonelyTime.f, e4, e5, e6, e7, e8, laws_FnExactLonelyTime.j0]
    · rw [decide_eq_false h] at e4 e5
      simp [laws_FnExactLonelyTime.f, laws_szRunnerS_eq l hm, hb, h4, e1, e2, e3, spec_LonelyTime.f, impl_LonelyTime.f, e4, e5, laws_FnExactLonelyTime.j0]

end Go.Proofs.Ytkehnndlladnlaa.QFnExactLonelyTime
