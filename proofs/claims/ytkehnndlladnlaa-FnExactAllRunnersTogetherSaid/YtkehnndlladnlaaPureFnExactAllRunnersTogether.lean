/- The law FnExactAllRunnersTogether in plain Lean, over the printed functions: it returns true for every input (no condition). -/
import Derived.Test.YtkehnndlladnlaaPFnExactAllRunnersTogetherx3
import Derived.OpenShut
namespace Go.Proofs.Ytkehnndlladnlaa.QFnExactAllRunnersTogether
open Go.RowKit Go.ChangeShapes Go.WideShapes Go.Proofs.Ytkehnndlladnlaa.PFnExactAllRunnersTogether Go.Proofs.YtkehnndlladnlaaW.PrintWords Go.Proofs.YtkehnndlladnlaaW.PrintLast Go.Proofs.YtkehnndlladnlaaW.PrintMore
set_option linter.unusedVariables false
set_option linter.unusedSimpArgs false
theorem w64 {x : Int} (h : -9223372036854775808 ≤ x ∧ x ≤ 9223372036854775807) : wrap64 x = x := by unfold wrap64; omega
theorem bm {a b A B : Int} (ha : 0 ≤ a ∧ a ≤ A) (hb : 0 ≤ b ∧ b ≤ B) : 0 ≤ a * b ∧ a * b ≤ A * B :=
  ⟨Int.mul_nonneg ha.1 hb.1, Int.mul_le_mul ha.2 hb.2 hb.1 (Int.le_trans ha.1 ha.2)⟩
theorem gcd_step (a b : Int) (ha : 0 ≤ a) (hb : 0 ≤ b) : Int.gcd b (a.tmod b) = Int.gcd a b := by
  obtain ⟨m, rfl⟩ := Int.eq_ofNat_of_zero_le ha
  obtain ⟨n, rfl⟩ := Int.eq_ofNat_of_zero_le hb
  rw [← Int.ofNat_tmod]
  show Nat.gcd n (m % n) = Nat.gcd m n
  rw [Nat.gcd_comm n, ← Nat.gcd_rec, Nat.gcd_comm]
def lowN (a b : Int) : Int := a / (Int.gcd a b : Int)
def lowD (a b : Int) : Int := b / (Int.gcd a b : Int)
theorem gpos {a b : Int} (hb : 0 < b) : 0 < (Int.gcd a b : Int) := by
  have := Int.gcd_pos_of_ne_zero_right a (show b ≠ 0 by omega)
  omega
theorem gle {a b : Int} (hb : 0 < b) : (Int.gcd a b : Int) ≤ b := Int.le_of_dvd hb (Int.gcd_dvd_right a b)
theorem tdiv_gcd_l (a b : Int) : a.tdiv (Int.gcd a b) = lowN a b := by
  unfold lowN
  exact (Int.tdiv_eq_ediv_of_dvd (Int.gcd_dvd_left a b))
theorem tdiv_gcd_r (a b : Int) : b.tdiv (Int.gcd a b) = lowD a b := by
  unfold lowD
  exact (Int.tdiv_eq_ediv_of_dvd (Int.gcd_dvd_right a b))
theorem low_range {a b M : Int} (hb : 0 < b) (ha : -M ≤ a ∧ a ≤ M) : -M ≤ lowN a b ∧ lowN a b ≤ M := by
  unfold lowN
  have g := gpos (a := a) hb
  have hM : 0 ≤ M := by omega
  have e := Int.ediv_mul_cancel (Int.gcd_dvd_left a b)
  constructor
  · apply Int.le_ediv_of_mul_le g
    have : -M * (Int.gcd a b : Int) ≤ -M * 1 := Int.mul_le_mul_of_nonpos_left (by omega) (by omega)
    omega
  · rcases Int.le_total 0 a with h | h
    · have := Int.ediv_le_self (Int.gcd a b : Int) h
      omega
    · have := Int.ediv_le_ediv g h
      rw [Int.zero_ediv] at this
      omega
theorem lowD_range {a b : Int} (hb : 0 < b) : 1 ≤ lowD a b ∧ lowD a b ≤ b := by
  unfold lowD
  have g := gpos (a := a) hb
  constructor
  · apply Int.le_ediv_of_mul_le g
    have := gle (a := a) hb
    omega
  · exact Int.ediv_le_self _ (by omega)
theorem bms {a b A B : Int} (ha : -A ≤ a ∧ a ≤ A) (hb : 0 ≤ b ∧ b ≤ B) : -(A * B) ≤ a * b ∧ a * b ≤ A * B := by
  have hA : 0 ≤ A := by omega
  rcases Int.le_total 0 a with h | h
  · have := bm ⟨h, ha.2⟩ hb
    have := Int.mul_nonneg hA (Int.le_trans hb.1 hb.2)
    omega
  · have := bm (a := -a) (A := A) ⟨by omega, by omega⟩ hb
    have e : -a * b = -(a * b) := Int.neg_mul a b
    omega
theorem low_scale (a b c : Int) (hc : 0 < c) : lowN (a * c) (b * c) = lowN a b ∧ lowD (a * c) (b * c) = lowD a b := by
  have e : (Int.gcd (a * c) (b * c) : Int) = (Int.gcd a b : Int) * c := by
    rw [Int.gcd_mul_right]
    have : (c.natAbs : Int) = c := by omega
    rw [Int.natCast_mul, this]
  unfold lowN lowD
  rw [e]
  exact ⟨Int.mul_ediv_mul_of_pos_left a _ hc, Int.mul_ediv_mul_of_pos_left b _ hc⟩
theorem w64b {x B : Int} (h : 0 ≤ x ∧ x ≤ B) (hB : B ≤ 9223372036854775807) : wrap64 x = x := w64 ⟨Int.le_trans (by decide) h.1, Int.le_trans h.2 hB⟩
theorem ad {x y A B : Int} (hx : 0 ≤ x ∧ x ≤ A) (hy : 0 ≤ y ∧ y ≤ B) : 0 ≤ x + y ∧ x + y ≤ A + B := ⟨Int.add_nonneg hx.1 hy.1, Int.add_le_add hx.2 hy.2⟩

theorem laws_szRunnerS_eq (l : List S23) (hl : l.length ≤ 9223372036854775807) : laws_szRunnerS.f l 1048576 = some (if 1048576 < l.length then -1 else 1048576 - (l.length : Int)) := by
  unfold laws_szRunnerS.f
  rw [w64 (by omega)]
  by_cases h : 1048576 < l.length
  · rw [if_pos h, if_pos (by omega)]
  · rw [if_neg h, if_neg (by omega)]

/-- the list as the program has it -/
def conv (l : List S23) : List S26 := l.map fun x => ⟨x.f0, x.f1⟩
theorem conv_length (l : List S23) : (conv l).length = l.length := by simp [conv]
theorem conv_rd (l : List S23) (i : Nat) (h : i < l.length) : (⟨(rd_T23 l (i : Int)).f0, (rd_T23 l (i : Int)).f1⟩ : S26) = (conv l)[i]'(by rw [conv_length]; exact h) := by
  simp [rd_T23, conv, h]
theorem laws_toRunnerS_l0 (l : List S23) (hl : l.length ≤ 1000000000) (d : Nat) : ∀ (k i : Nat), i + d = l.length → d < k →
    laws_toRunnerS.l0 k l ((conv l).take i ++ List.replicate d z26) (i : Int) = some (conv l) := by
  induction d with
  | zero =>
    intro k i hi hk
    obtain ⟨k, rfl⟩ : ∃ m, k = m + 1 := ⟨k - 1, by omega⟩
    simp only [laws_toRunnerS.l0]
    rw [if_neg (by omega), List.take_of_length_le (by rw [conv_length]; omega)]
    simp
  | succ d ih =>
    intro k i hi hk
    obtain ⟨k, rfl⟩ : ∃ m, k = m + 1 := ⟨k - 1, by omega⟩
    have hlt : i < l.length := by omega
    have hlc : i < (conv l).length := by rw [conv_length]; exact hlt
    have hlen : ((conv l).take i ++ List.replicate (d + 1) z26).length = l.length := by
      rw [List.length_append, List.length_take, List.length_replicate, conv_length]
      omega
    have e1 : wrap64 ((i : Int) + 1) = ((i + 1 : Nat) : Int) := by rw [w64 (by omega)]; rfl
    simp only [laws_toRunnerS.l0, laws_toRunner.f, Option.bind_some]
    rw [if_pos (by omega), if_pos (by omega), hlen, if_pos (by omega), e1]
    have es : ((conv l).take i ++ List.replicate (d + 1) z26).set (i : Int).toNat ⟨(rd_T23 l (i : Int)).f0, (rd_T23 l (i : Int)).f1⟩ = (conv l).take (i + 1) ++ List.replicate d z26 := by
      rw [Int.toNat_natCast, conv_rd l i hlt, List.set_append_right _ _ (by rw [List.length_take]; omega), List.length_take, Nat.min_eq_left (by omega), Nat.sub_self, List.replicate_succ, List.set_cons_zero, List.take_succ_eq_append_getElem hlc, List.append_assoc]
      rfl
    rw [es]
    exact ih k (i + 1) (by omega) (by omega)
theorem laws_toRunnerS_eq (l : List S23) (hl : l.length ≤ 1000000000) (k : Nat) (hk : l.length < k) : laws_toRunnerS.f k l = some (conv l) := by
  unfold laws_toRunnerS.f
  rw [if_pos (Int.natCast_nonneg _), if_pos (by rw [Int.toNat_natCast]; omega), Int.toNat_natCast]
  have := laws_toRunnerS_l0 l hl l.length k 0 (by omega) hk
  simpa using this

theorem laws_eqRunnerS_l0 (l : List S26) (hl : l.length ≤ 1000000000) (d : Nat) : ∀ (k i : Nat), i + d = l.length → d < k → laws_eqRunnerS.l0 k l l (i : Int) = some true := by
  induction d with
  | zero =>
    intro k i hi hk
    obtain ⟨k, rfl⟩ : ∃ m, k = m + 1 := ⟨k - 1, by omega⟩
    simp only [laws_eqRunnerS.l0]
    rw [if_neg (by omega)]
  | succ d ih =>
    intro k i hi hk
    obtain ⟨k, rfl⟩ : ∃ m, k = m + 1 := ⟨k - 1, by omega⟩
    have e1 : wrap64 ((i : Int) + 1) = ((i + 1 : Nat) : Int) := by rw [w64 (by omega)]; rfl
    simp only [laws_eqRunnerS.l0, laws_eqRunner.f, if_true, Option.bind_some]
    rw [if_pos (by omega), if_pos (by omega), if_pos (by omega), e1]
    exact ih k (i + 1) (by omega) (by omega)
theorem laws_eqRunnerS_eq (l : List S26) (hl : l.length ≤ 1000000000) (k : Nat) (hk : l.length < k) : laws_eqRunnerS.f k l l = some true := by
  unfold laws_eqRunnerS.f
  rw [if_pos rfl]
  exact laws_eqRunnerS_l0 l hl l.length k 0 (by omega) hk

theorem spec_l1In_eq (a b c : Int) : spec_l1In.f a b c = some (decide (b ≤ a ∧ a ≤ c)) := by
  unfold spec_l1In.f
  by_cases h : b ≤ a <;> simp [h]

theorem spec_trLap_eq (a : Int) : spec_trLap.f a = some (decide (2 ≤ a ∧ a ≤ 1000)) := by
  simp only [spec_trLap.f, spec_l1In_eq, Option.bind_some]

/-- a runner of a track -/
def isRun (a s v : Int) : Prop := (0 ≤ s ∧ s ≤ a - 1) ∧ (1 ≤ v ∧ v ≤ 100)
instance (a s v : Int) : Decidable (isRun a s v) := by unfold isRun; infer_instance
theorem spec_trRunner_eq (a s v : Int) : spec_trRunner.f a s v = some (decide ((2 ≤ a ∧ a ≤ 1000) ∧ isRun a s v)) := by
  simp only [spec_trRunner.f, spec_trLap_eq, spec_l1In_eq, Option.bind_some]
  by_cases h1 : 2 ≤ a ∧ a ≤ 1000
  · rw [w64 (x := a - 1) (by omega)]
    by_cases h2 : 0 ≤ s ∧ s ≤ a - 1
    · by_cases h3 : 1 ≤ v ∧ v ≤ 100
      · have : isRun a s v := ⟨h2, h3⟩
        simp [h1, h2, h3, this]
      · have : ¬ isRun a s v := fun z => h3 z.2
        simp [h1, h2, h3, this]
    · have : ¬ isRun a s v := fun z => h2 z.1
      simp [h1, h2, this]
  · simp [h1]

theorem spec_trList_l0 (a : Int) (l : List S26) (hl : l.length ≤ 1000000000) (d : Nat) : ∀ (k i : Nat), i + d = l.length → d < k →
    spec_trList.l0 k a l (l.length : Int) (i : Int) = some (decide (∀ x ∈ l.drop i, (2 ≤ a ∧ a ≤ 1000) ∧ isRun a x.f0 x.f1)) := by
  induction d with
  | zero =>
    intro k i hi' hk
    obtain ⟨k, rfl⟩ : ∃ m, k = m + 1 := ⟨k - 1, by omega⟩
    simp only [spec_trList.l0]
    rw [if_neg (by omega), List.drop_of_length_le (by omega)]
    simp
  | succ d ih =>
    intro k i hi' hk
    obtain ⟨k, rfl⟩ : ∃ m, k = m + 1 := ⟨k - 1, by omega⟩
    have hlt : i < l.length := by omega
    have er : rd_T26 l (i : Int) = l[i] := by simp [rd_T26, hlt]
    simp only [spec_trList.l0]
    rw [if_pos (by omega), if_pos (by omega), if_pos (by omega), er, spec_trRunner_eq, List.drop_eq_getElem_cons hlt]
    simp only [Option.bind_some]
    have e1 : wrap64 ((i : Int) + 1) = ((i + 1 : Nat) : Int) := by rw [w64 (by omega)]; rfl
    rw [e1, ih k (i + 1) (by omega) (by omega)]
    have e2 : (∀ x ∈ l[i] :: l.drop (i + 1), (2 ≤ a ∧ a ≤ 1000) ∧ isRun a x.f0 x.f1) ↔ (((2 ≤ a ∧ a ≤ 1000) ∧ isRun a l[i].f0 l[i].f1) ∧ ∀ x ∈ l.drop (i + 1), (2 ≤ a ∧ a ≤ 1000) ∧ isRun a x.f0 x.f1) := List.forall_mem_cons
    by_cases h : (2 ≤ a ∧ a ≤ 1000) ∧ isRun a l[i].f0 l[i].f1
    · rw [decide_eq_true h, if_pos rfl]
      exact congrArg some (decide_eq_decide.mpr (e2.trans ⟨fun z => z.2, fun z => ⟨h, z⟩⟩).symm)
    · rw [decide_eq_false h, if_neg Bool.false_ne_true]
      exact congrArg some (decide_eq_false (fun z => h (e2.1 z).1)).symm
theorem spec_trList_iff (a : Int) (l : List S26) (hl : l.length ≤ 1000000000) (k : Nat) (hk : l.length < k) : ∃ b, spec_trList.f k a l = some b ∧ (b = true ↔ ((1 ≤ l.length ∧ l.length ≤ 6) ∧ ∀ x ∈ l, (2 ≤ a ∧ a ≤ 1000) ∧ isRun a x.f0 x.f1)) := by
  unfold spec_trList.f
  rw [spec_l1In_eq]
  simp only [Option.bind_some]
  by_cases h : 1 ≤ (l.length : Int) ∧ (l.length : Int) ≤ 6
  · have := spec_trList_l0 a l hl l.length k 0 (by omega) hk
    refine ⟨_, by rw [decide_eq_true h, if_pos rfl]; exact this, ?_⟩
    rw [decide_eq_true_eq, List.drop_zero]
    exact ⟨fun z => ⟨by omega, z⟩, fun z => z.2⟩
  · refine ⟨false, by rw [decide_eq_false h]; rfl, ?_⟩
    constructor
    · intro z
      cases z
    · intro z
      exact absurd (by have := z.1; omega) h

theorem spec_trFar_eq (s v t : Int) (hs : 0 ≤ s ∧ s ≤ 999) (hv : 1 ≤ v ∧ v ≤ 100) (ht : 0 ≤ t ∧ t ≤ 1000000) : spec_trFar.f s v t = some (s + v * t) := by
  have p := bm (A := 100) (B := 1000000) (a := v) (b := t) (by omega) ht
  unfold spec_trFar.f
  rw [w64 (x := v * t) (by omega), w64 (x := s + v * t) (by omega)]
theorem far_range (s v t : Int) (hs : 0 ≤ s ∧ s ≤ 999) (hv : 1 ≤ v ∧ v ≤ 100) (ht : 0 ≤ t ∧ t ≤ 1000000) : 0 ≤ s + v * t ∧ s + v * t ≤ 100000999 := by
  have p := bm (A := 100) (B := 1000000) (a := v) (b := t) (by omega) ht
  omega

theorem spec_trPlace_eq (a s v t : Int) (ha : 2 ≤ a ∧ a ≤ 1000) (hs : 0 ≤ s ∧ s ≤ 999) (hv : 1 ≤ v ∧ v ≤ 100) (ht : 0 ≤ t ∧ t ≤ 1000000) : spec_trPlace.f a s v t = some ((s + v * t) % a) := by
  have p := far_range s v t hs hv ht
  unfold spec_trPlace.f
  rw [spec_trFar_eq s v t hs hv ht]
  simp only [Option.bind_some]
  rw [if_neg (by omega), Int.tmod_eq_emod_of_nonneg p.1]

theorem spec_trCommon_l0 (n : Nat) : ∀ (k : Nat) (a b : Int), 0 ≤ a → 0 ≤ b → b ≤ n → n < k → spec_trCommon.l0 k a b = some (Int.gcd a b : Int) := by
  induction n with
  | zero =>
    intro k a b ha hb hn hk
    obtain ⟨k, rfl⟩ : ∃ m, k = m + 1 := ⟨k - 1, by omega⟩
    obtain rfl : b = 0 := by omega
    simp only [spec_trCommon.l0]
    rw [if_neg (by omega), Int.gcd_zero_right]
    congr 1
    omega
  | succ n ih =>
    intro k a b ha hb hn hk
    obtain ⟨k, rfl⟩ : ∃ m, k = m + 1 := ⟨k - 1, by omega⟩
    simp only [spec_trCommon.l0]
    by_cases h : b > 0
    · rw [if_pos h, if_neg (by omega)]
      have h1 : 0 ≤ a.tmod b := Int.tmod_nonneg b ha
      have h2 : a.tmod b < b := Int.tmod_lt_of_pos a h
      rw [ih k b (a.tmod b) hb h1 (by omega) (by omega), gcd_step a b ha hb]
    · obtain rfl : b = 0 := by omega
      rw [if_neg h, Int.gcd_zero_right]
      congr 1
      omega
theorem spec_trCommon_eq (k : Nat) (a b : Int) (ha : 0 ≤ a) (hb : 0 ≤ b) (hk : b < k) : spec_trCommon.f k a b = some (Int.gcd a b : Int) := by
  unfold spec_trCommon.f
  exact spec_trCommon_l0 b.toNat k a b ha hb (by omega) (by omega)

def gf (c : Int) : List S26 → Int
  | [] => c
  | x :: r => gf (Int.gcd c x.f1 : Int) r
theorem gcd_range (c v : Int) (hc : 0 < c) : 0 < (Int.gcd c v : Int) ∧ (Int.gcd c v : Int) ≤ c := by
  have h1 := Int.gcd_pos_of_ne_zero_left v (show c ≠ 0 by omega)
  exact ⟨by omega, Int.le_of_dvd hc (Int.gcd_dvd_left c v)⟩
theorem gf_range (l : List S26) : ∀ c : Int, 0 < c → 0 < gf c l ∧ gf c l ≤ c := by
  induction l with
  | nil => exact fun c hc => ⟨hc, Int.le_refl c⟩
  | cons x r ih =>
    intro c hc
    have g := gcd_range c x.f1 hc
    have := ih _ g.1
    exact ⟨this.1, Int.le_trans this.2 g.2⟩
theorem spec_trPeriod_l0 (a : Int) (ha : 2 ≤ a ∧ a ≤ 1000) (l : List S26) (hl : l.length ≤ 6) (hv : ∀ x ∈ l, 1 ≤ x.f1 ∧ x.f1 ≤ 100) (d : Nat) : ∀ (k i : Nat) (c : Int), i + d = l.length → d + 200 < k → 0 < c → c ≤ 1000 →
    spec_trPeriod.l0 k a c l (l.length : Int) (i : Int) = some (a / gf c (l.drop i)) := by
  induction d with
  | zero =>
    intro k i c hi hk h0 h1
    obtain ⟨k, rfl⟩ : ∃ m, k = m + 1 := ⟨k - 1, by omega⟩
    have q0 := Int.ediv_nonneg (show 0 ≤ a by omega) (show 0 ≤ c by omega)
    have q1 := Int.ediv_le_self c (show 0 ≤ a by omega)
    simp only [spec_trPeriod.l0]
    rw [if_neg (by omega), if_neg (by omega), List.drop_of_length_le (by omega), Int.tdiv_eq_ediv_of_nonneg (by omega), w64 (by omega)]
    rfl
  | succ d ih =>
    intro k i c hi hk h0 h1
    obtain ⟨k, rfl⟩ : ∃ m, k = m + 1 := ⟨k - 1, by omega⟩
    have hlt : i < l.length := by omega
    have er : rd_T26 l (i : Int) = l[i] := by simp [rd_T26, hlt]
    have e1 : wrap64 ((i : Int) + 1) = ((i + 1 : Nat) : Int) := by rw [w64 (by omega)]; rfl
    have hx := hv l[i] (List.getElem_mem hlt)
    have g := gcd_range c l[i].f1 h0
    simp only [spec_trPeriod.l0]
    rw [if_pos (by omega), if_pos (by omega), if_pos (by omega), er, spec_trCommon_eq k c l[i].f1 (by omega) (by omega) (by omega), List.drop_eq_getElem_cons hlt]
    simp only [Option.bind_some]
    rw [e1, ih k (i + 1) _ (by omega) (by omega) g.1 (by omega)]
    rfl
theorem spec_trPeriod_eq (a : Int) (ha : 2 ≤ a ∧ a ≤ 1000) (l : List S26) (hl : l.length ≤ 6) (hv : ∀ x ∈ l, 1 ≤ x.f1 ∧ x.f1 ≤ 100) (k : Nat) (hk : 300 < k) : spec_trPeriod.f k a l = some (a / gf a l) := by
  unfold spec_trPeriod.f
  have := spec_trPeriod_l0 a ha l hl hv l.length k 0 a (by omega) (by omega) (by omega) (by omega)
  simpa using this

theorem impl_within_eq (a b c : Int) : impl_within.f a b c = some (decide (b ≤ a ∧ a ≤ c)) := by
  unfold impl_within.f
  by_cases h : b ≤ a <;> simp [h]

theorem impl_isRunner_eq (a s v : Int) (h1 : 2 ≤ a ∧ a ≤ 1000) : impl_isRunner.f a s v = some (decide (isRun a s v)) := by
  simp only [impl_isRunner.f, impl_within_eq, Option.bind_some]
  rw [w64 (x := a - 1) (by omega)]
  by_cases h2 : 0 ≤ s ∧ s ≤ a - 1
  · by_cases h3 : 1 ≤ v ∧ v ≤ 100
    · have : isRun a s v := ⟨h2, h3⟩
      simp [h2, h3, this]
    · have : ¬ isRun a s v := fun z => h3 z.2
      simp [h2, h3, this]
  · have : ¬ isRun a s v := fun z => h2 z.1
    simp [h2, this]

theorem noRun_eq (a : Int) (x : S26) (h1 : 2 ≤ a ∧ a ≤ 1000) : noRun a x = !(decide (isRun a x.f0 x.f1)) := by
  unfold noRun
  rw [impl_isRunner_eq a x.f0 x.f1 h1]
  rfl
/-- runners of a track -/
def areRun (a : Int) (l : List S26) : Prop := (2 ≤ a ∧ a ≤ 1000) ∧ (1 ≤ l.length ∧ l.length ≤ 6) ∧ ∀ x ∈ l, isRun a x.f0 x.f1
instance (a : Int) (l : List S26) : Decidable (areRun a l) := by unfold areRun; infer_instance
theorem impl_AreRunners_eq (a : Int) (l : List S26) : impl_AreRunners.f a l = some (decide (areRun a l)) := by
  unfold impl_AreRunners.f
  rw [impl_within_eq, impl_within_eq]
  simp only [Option.bind_some]
  by_cases h1 : 2 ≤ a ∧ a ≤ 1000
  · by_cases h2 : 1 ≤ (l.length : Int) ∧ (l.length : Int) ≤ 6
    · simp only [h1, h2, and_self, decide_true, if_true, Option.some.injEq]
      by_cases h3 : ∀ x ∈ l, isRun a x.f0 x.f1
      · have z : areRun a l := ⟨h1, by omega, h3⟩
        rw [decide_eq_true z, Bool.not_eq_true', List.any_eq_false]
        intro x hx
        rw [noRun_eq a x h1]
        simp [h3 x hx]
      · have z : ¬ areRun a l := fun y => h3 y.2.2
        rw [decide_eq_false z, Bool.not_eq_false', List.any_eq_true]
        have ⟨x, hx⟩ := Classical.not_forall.mp h3
        have ⟨hm, hn⟩ := Classical.not_imp.mp hx
        exact ⟨x, hm, by rw [noRun_eq a x h1]; simp [hn]⟩
    · have z : ¬ areRun a l := fun y => h2 (by have := y.2.1; omega)
      simp only [h1, h2, and_self, decide_true, decide_false, if_true, Bool.false_eq_true, if_false, decide_eq_false z]
  · have z : ¬ areRun a l := fun y => h1 y.1
    simp only [h1, decide_false, Bool.false_eq_true, if_false, decide_eq_false z]

theorem impl_farAt_eq (s v t : Int) (hs : 0 ≤ s ∧ s ≤ 999) (hv : 1 ≤ v ∧ v ≤ 100) (ht : 0 ≤ t ∧ t ≤ 1000000) : impl_farAt.f s v t = some (s + v * t) := by
  have p := bm (A := 100) (B := 1000000) (a := v) (b := t) (by omega) ht
  unfold impl_farAt.f
  rw [w64 (x := v * t) (by omega), w64 (x := s + v * t) (by omega)]

def farP (x : S26) (t : Int) : Int := x.f0 + x.f1 * t
theorem spot_eq (a t : Int) (x : S26) (ha : 2 ≤ a ∧ a ≤ 1000) (ht : 0 ≤ t ∧ t ≤ 1000000) (hx : isRun a x.f0 x.f1) : spot a t x = farP x t % a := by
  unfold isRun at hx
  have f := far_range x.f0 x.f1 t (by omega) hx.2 ht
  have p := bm (A := 100) (B := 1000000) (a := x.f1) (b := t) (by omega) ht
  unfold spot farP
  rw [w64 (x := x.f1 * t) (by omega), w64 (x := x.f0 + x.f1 * t) (by omega), Int.tmod_eq_emod_of_nonneg f.1]
/-- all at one place -/
def tog (a : Int) (l : List S26) (t : Int) : Prop := ∀ x ∈ l, farP x t % a = farP (rd_T26 l 0) t % a
instance (a : Int) (l : List S26) (t : Int) : Decidable (tog a l t) := by unfold tog; infer_instance
theorem impl_areTogether_eq (a t : Int) (l : List S26) (h : areRun a l) (ht : 0 ≤ t ∧ t ≤ 1000000) : impl_areTogether.f a t l = some (decide (tog a l t)) := by
  obtain ⟨ha, hl, hv⟩ := h
  have h0 : rd_T26 l 0 ∈ l := by
    have e : rd_T26 l 0 = l[0] := by
      have : 0 < l.length := by omega
      simp [rd_T26, this]
    rw [e]
    exact List.getElem_mem _
  unfold impl_areTogether.f
  rw [if_neg (by omega), if_pos (by omega)]
  refine congrArg some ?_
  by_cases z : tog a l t
  · rw [decide_eq_true z, Bool.not_eq_true', List.any_eq_false]
    intro x hx
    rw [spot_eq a t x ha ht (hv x hx), spot_eq a t _ ha ht (hv _ h0), z x hx]
    simp
  · rw [decide_eq_false z, Bool.not_eq_false', List.any_eq_true]
    have ⟨x, hx⟩ := Classical.not_forall.mp z
    have ⟨hm, hn⟩ := Classical.not_imp.mp hx
    refine ⟨x, hm, ?_⟩
    rw [spot_eq a t x ha ht (hv x hm), spot_eq a t _ ha ht (hv _ h0)]
    simpa using hn

theorem spec_trList_eq (a : Int) (l : List S26) (hl : l.length ≤ 1000000000) (k : Nat) (hk : l.length < k) : spec_trList.f k a l = some (decide (areRun a l)) := by
  obtain ⟨b, h1, h2⟩ := spec_trList_iff a l hl k hk
  rw [h1]
  congr 1
  rw [Bool.eq_iff_iff, decide_eq_true_eq, h2]
  unfold areRun
  constructor
  · rintro ⟨y, z⟩
    have ⟨q, hq⟩ : ∃ q, q ∈ l := List.exists_mem_of_length_pos (by omega)
    exact ⟨(z q hq).1, y, fun q hq => (z q hq).2⟩
  · rintro ⟨x, y, z⟩
    exact ⟨y, fun q hq => ⟨x, z q hq⟩⟩
def first (C : Int → Bool) : Nat → Int → Int × Bool
  | 0, _ => (0, false)
  | d + 1, t => if C t = true then (t, true) else first C d (t + 1)
theorem first_none (C : Int → Bool) (d : Nat) : ∀ t : Int, (∀ x : Int, t ≤ x → x < t + d → C x = false) → first C d t = (0, false) := by
  induction d with
  | zero => exact fun _ _ => rfl
  | succ d ih =>
    intro t h
    unfold first
    rw [h t (Int.le_refl t) (by omega), if_neg Bool.false_ne_true]
    exact ih (t + 1) (fun x h1 h2 => h x (by omega) (by omega))
theorem first_more (C : Int → Bool) (e : Nat) (d : Nat) : ∀ t : Int, (∃ x : Int, t ≤ x ∧ x < t + d ∧ C x = true) → first C (d + e) t = first C d t := by
  induction d with
  | zero =>
    rintro t ⟨x, h1, h2, _⟩
    omega
  | succ d ih =>
    rintro t ⟨x, h1, h2, h3⟩
    rw [show d + 1 + e = d + e + 1 by omega]
    unfold first
    by_cases z : C t = true
    · rw [if_pos z, if_pos z]
    · rw [if_neg z, if_neg z]
      refine ih (t + 1) ⟨x, ?_, by omega, h3⟩
      have : x ≠ t := fun q => z (q ▸ h3)
      omega
theorem first_period (C : Int → Bool) (n m : Nat) (hn : 0 < n) (hm : n ≤ m) (hC : ∀ t : Int, 0 ≤ t → C (t + n) = C t) : first C n 0 = first C m 0 := by
  obtain ⟨e, rfl⟩ := Nat.exists_eq_add_of_le hm
  by_cases h : ∃ x : Int, 0 ≤ x ∧ x < 0 + (n : Int) ∧ C x = true
  · exact (first_more C e n 0 h).symm
  · have no : ∀ x : Int, 0 ≤ x → x < n → C x = false := by
      intro x h1 h2
      cases hc : C x with
      | false => rfl
      | true => exact absurd ⟨x, h1, by omega, hc⟩ h
    have all : ∀ (q : Nat) (x : Int), 0 ≤ x → x < n → C (x + n * q) = false := by
      intro q
      induction q with
      | zero =>
        intro x h1 h2
        rw [Int.natCast_zero, Int.mul_zero, Int.add_zero]
        exact no x h1 h2
      | succ q ih =>
        intro x h1 h2
        have p := Int.mul_nonneg (show (0 : Int) ≤ n by omega) (show (0 : Int) ≤ q by omega)
        have e1 : x + (n : Int) * ((q + 1 : Nat) : Int) = x + n * q + n := by
          rw [Int.natCast_add, Int.mul_add]
          omega
        rw [e1, hC _ (by omega)]
        exact ih x h1 h2
    have every : ∀ x : Int, 0 ≤ x → C x = false := by
      intro x hx
      have q1 := Int.emod_add_mul_ediv x n
      have q2 := Int.emod_nonneg x (show (n : Int) ≠ 0 by omega)
      have q3 := Int.emod_lt_of_pos x (show (0 : Int) < n by omega)
      obtain ⟨q, hq⟩ := Int.eq_ofNat_of_zero_le (Int.ediv_nonneg hx (show (0 : Int) ≤ n by omega))
      have := all q (x % n) q2 q3
      rw [← hq, q1] at this
      exact this
    rw [first_none C n 0 (fun x h1 h2 => every x h1), first_none C (n + e) 0 (fun x h1 h2 => every x h1)]
theorem gf_dvd (l : List S26) : ∀ c : Int, gf c l ∣ c ∧ ∀ x ∈ l, gf c l ∣ x.f1 := by
  induction l with
  | nil => exact fun c => ⟨Int.dvd_refl c, fun x hx => by cases hx⟩
  | cons y r ih =>
    intro c
    have h := ih (Int.gcd c y.f1 : Int)
    have g1 := Int.gcd_dvd_left c y.f1
    have g2 := Int.gcd_dvd_right c y.f1
    refine ⟨Int.dvd_trans h.1 g1, fun x hx => ?_⟩
    rcases List.mem_cons.mp hx with rfl | hx
    · exact Int.dvd_trans h.1 g2
    · exact h.2 x hx
theorem tog_period (a : Int) (l : List S26) (hl : 0 < l.length) (t : Int) : tog a l (t + a / gf a l) ↔ tog a l t := by
  have d := gf_dvd l a
  have step : ∀ x ∈ l, farP x (t + a / gf a l) % a = farP x t % a := by
    intro x hx
    obtain ⟨m, hm⟩ := d.2 x hx
    have e : x.f1 * (a / gf a l) = a * m := by
      rw [hm, Int.mul_comm (gf a l) m, Int.mul_assoc, Int.mul_ediv_cancel' d.1, Int.mul_comm]
    unfold farP
    rw [Int.mul_add, e, ← Int.add_assoc, Int.add_mul_emod_self_left]
  have h0 : rd_T26 l 0 ∈ l := by
    have e : rd_T26 l 0 = l[0] := by simp [rd_T26, hl]
    rw [e]
    exact List.getElem_mem _
  unfold tog
  constructor
  · intro h x hx
    have := h x hx
    rwa [step x hx, step _ h0] at this
  · intro h x hx
    rw [step x hx, step _ h0]
    exact h x hx
theorem spec_all_l1 (a : Int) (l : List S26) (h : areRun a l) (t : Int) (ht : 0 ≤ t ∧ t ≤ 10000) (d : Nat) : ∀ (k i : Nat) (b : Bool), i + d = l.length → d < k →
    spec_AllRunnersTogether.l1 k a l t b l (l.length : Int) (i : Int) = if b = true ∧ (∀ x ∈ l.drop i, farP x t % a = farP (rd_T26 l 0) t % a) then some (t, true) else spec_AllRunnersTogether.l0 (k - d - 1) a l (t + 1) := by
  obtain ⟨ha, hl, hv⟩ := h
  have h0 : rd_T26 l 0 ∈ l := by
    have e : rd_T26 l 0 = l[0] := by
      have : 0 < l.length := by omega
      simp [rd_T26, this]
    rw [e]
    exact List.getElem_mem _
  have hv0 := hv _ h0
  unfold isRun at hv0
  induction d with
  | zero =>
    intro k i b hi hk
    obtain ⟨k, rfl⟩ : ∃ m, k = m + 1 := ⟨k - 1, by omega⟩
    simp only [spec_AllRunnersTogether.l1]
    rw [if_neg (by omega), List.drop_of_length_le (by omega), w64 (x := t + 1) (by omega)]
    cases b <;> simp
  | succ d ih =>
    intro k i b hi hk
    obtain ⟨k, rfl⟩ : ∃ m, k = m + 1 := ⟨k - 1, by omega⟩
    have hlt : i < l.length := by omega
    have er : rd_T26 l (i : Int) = l[i] := by simp [rd_T26, hlt]
    have e1 : wrap64 ((i : Int) + 1) = ((i + 1 : Nat) : Int) := by rw [w64 (by omega)]; rfl
    have hx := hv l[i] (List.getElem_mem hlt)
    unfold isRun at hx
    have ek : k + 1 - (d + 1) - 1 = k - d - 1 := by omega
    simp only [spec_AllRunnersTogether.l1]
    rw [if_pos (by omega), if_pos (by omega), if_pos (by omega), er, e1, ek, List.drop_eq_getElem_cons hlt]
    cases b with
    | false =>
      rw [if_neg Bool.false_ne_true, ih k (i + 1) false (by omega) (by omega), if_neg (fun z => Bool.false_ne_true z.1), if_neg (fun z => Bool.false_ne_true z.1)]
    | true =>
      rw [if_pos rfl, spec_trPlace_eq a _ _ t ha (by omega) hx.2 (by omega)]
      simp only [Option.bind_some]
      rw [if_pos (by omega), spec_trPlace_eq a _ _ t ha (by omega) hv0.2 (by omega)]
      simp only [Option.bind_some]
      rw [ih k (i + 1) _ (by omega) (by omega)]
      have iff1 : (((l[i].f0 + l[i].f1 * t) % a == ((rd_T26 l 0).f0 + (rd_T26 l 0).f1 * t) % a) = true ∧ ∀ x ∈ l.drop (i + 1), farP x t % a = farP (rd_T26 l 0) t % a) ↔ (True ∧ ∀ x ∈ l[i] :: l.drop (i + 1), farP x t % a = farP (rd_T26 l 0) t % a) := by
        rw [List.forall_mem_cons, beq_iff_eq]
        exact ⟨fun z => ⟨trivial, z⟩, fun z => z.2⟩
      by_cases z : True ∧ ∀ x ∈ l[i] :: l.drop (i + 1), farP x t % a = farP (rd_T26 l 0) t % a
      · rw [if_pos (iff1.mpr z), if_pos z]
      · rw [if_neg (fun y => z (iff1.mp y)), if_neg z]
theorem spec_all_l0 (a : Int) (l : List S26) (h : areRun a l) (d : Nat) : ∀ (k : Nat) (t : Int), t + d = a / gf a l → 20 * d + 400 < k → 0 ≤ t →
    spec_AllRunnersTogether.l0 k a l t = some (first (fun t => decide (tog a l t)) d t) := by
  have g := h
  obtain ⟨ha, hl, hv⟩ := g
  have gr := gf_range l a (by omega)
  have p1 := Int.ediv_le_self (gf a l) (show 0 ≤ a by omega)
  induction d with
  | zero =>
    intro k t hd hk ht
    obtain ⟨k, rfl⟩ : ∃ m, k = m + 1 := ⟨k - 1, by omega⟩
    simp only [spec_AllRunnersTogether.l0]
    rw [spec_trPeriod_eq a ha l hl.2 (fun x hx => (hv x hx).2) k (by omega)]
    simp only [Option.bind_some]
    rw [if_neg (by omega)]
    rfl
  | succ d ih =>
    intro k t hd hk ht
    obtain ⟨k, rfl⟩ : ∃ m, k = m + 1 := ⟨k - 1, by omega⟩
    simp only [spec_AllRunnersTogether.l0]
    rw [spec_trPeriod_eq a ha l hl.2 (fun x hx => (hv x hx).2) k (by omega)]
    simp only [Option.bind_some]
    rw [if_pos (by omega)]
    have := spec_all_l1 a l h t (by omega) l.length k 0 true (by omega) (by omega)
    rw [List.drop_zero] at this
    refine Eq.trans this ?_
    show _ = some (if decide (tog a l t) = true then (t, true) else first _ d (t + 1))
    by_cases z : tog a l t
    · rw [if_pos ⟨rfl, z⟩, decide_eq_true z, if_pos rfl]
    · rw [if_neg (fun y => z y.2), decide_eq_false z, if_neg Bool.false_ne_true]
      exact ih _ (t + 1) (by omega) (by omega) (by omega)
theorem impl_all_l0 (a : Int) (l : List S26) (h : areRun a l) (d : Nat) : ∀ (k : Nat) (t : Int), t + d = a → d < k → 0 ≤ t →
    impl_AllRunnersTogether.l0 k a l a t = some (first (fun t => decide (tog a l t)) d t) := by
  have ha := h.1
  induction d with
  | zero =>
    intro k t hd hk ht
    obtain ⟨k, rfl⟩ : ∃ m, k = m + 1 := ⟨k - 1, by omega⟩
    simp only [impl_AllRunnersTogether.l0]
    rw [if_neg (by omega)]
    rfl
  | succ d ih =>
    intro k t hd hk ht
    obtain ⟨k, rfl⟩ : ∃ m, k = m + 1 := ⟨k - 1, by omega⟩
    simp only [impl_AllRunnersTogether.l0]
    rw [if_pos (by omega), impl_areTogether_eq a t l h (by omega)]
    simp only [Option.bind_some]
    show _ = some (if decide (tog a l t) = true then (t, true) else first _ d (t + 1))
    by_cases z : tog a l t
    · rw [decide_eq_true z, if_pos rfl, if_pos rfl]
    · rw [decide_eq_false z, if_neg Bool.false_ne_true, if_neg Bool.false_ne_true, w64 (x := t + 1) (by omega)]
      exact ih k (t + 1) (by omega) (by omega) (by omega)
theorem all_both (a : Int) (l : List S26) (h : areRun a l) (k : Nat) (hk : 100000 < k) : ∃ r, spec_AllRunnersTogether.l0 k a l 0 = some r ∧ impl_AllRunnersTogether.l0 k a l a 0 = some r := by
  have g := h
  obtain ⟨ha, hl, hv⟩ := g
  have gr := gf_range l a (by omega)
  have p1 := Int.ediv_le_self (gf a l) (show 0 ≤ a by omega)
  have p2 : 1 ≤ a / gf a l := by
    apply Int.le_ediv_of_mul_le gr.1
    omega
  obtain ⟨n, hn⟩ := Int.eq_ofNat_of_zero_le (show 0 ≤ a / gf a l by omega)
  obtain ⟨m, hm⟩ := Int.eq_ofNat_of_zero_le (show 0 ≤ a by omega)
  have fp := first_period (fun t => decide (tog a l t)) n m (by omega) (by omega) (fun t _ => by
    rw [← hn]
    exact decide_eq_decide.mpr (tog_period a l (by omega) t))
  refine ⟨_, spec_all_l0 a l h n k 0 (by omega) (by omega) (Int.le_refl 0), ?_⟩
  rw [fp]
  exact impl_all_l0 a l h m k 0 (by omega) (by omega) (Int.le_refl 0)
theorem holds (a : Int) (l : List S23) (_ : (Lit.int .i64 a).wf = true) (hm : l.length ≤ 9223372036854775807) : ∃ k, laws_FnExactAllRunnersTogether.f k a l = some true := by
  by_cases hb : 1048576 < l.length
  · exact ⟨0, by simp [laws_FnExactAllRunnersTogether.f, laws_szRunnerS_eq l hm, hb]⟩
  · obtain ⟨k, hk⟩ : ∃ k : Nat, 1048577 < k := ⟨1048578, by decide⟩
    refine ⟨k + 1, ?_⟩
    have hc : (conv l).length = l.length := conv_length l
    have h4 : ¬ (1048576 - (l.length : Int)) < 0 := by omega
    have e1 := laws_toRunnerS_eq l (by omega) (k + 1) (by omega)
    have e2 := laws_toRunnerS_eq l (by omega) k (by omega)
    have e3 := laws_eqRunnerS_eq (conv l) (by omega) k (by omega)
    have e4 := spec_trList_eq a (conv l) (by omega) (k + 1) (by omega)
    have e5 := impl_AreRunners_eq a (conv l)
    by_cases h : areRun a (conv l)
    · obtain ⟨r, e6, e7⟩ := all_both a (conv l) h (k + 1) (by omega)
      rw [decide_eq_true h] at e4 e5
      simp [laws_FnExactAllRunnersTogether.f, laws_szRunnerS_eq l hm, hb, h4, e1, e2, e3, spec_AllRunnersTogether.f, impl_AllRunnersTogether.f, e4, e5, e6, e7, laws_FnExactAllRunnersTogether.j0]
    · rw [decide_eq_false h] at e4 e5
      simp [laws_FnExactAllRunnersTogether.f, laws_szRunnerS_eq l hm, hb, h4, e1, e2, e3, spec_AllRunnersTogether.f, impl_AllRunnersTogether.f, e4, e5, laws_FnExactAllRunnersTogether.j0]

end Go.Proofs.Ytkehnndlladnlaa.QFnExactAllRunnersTogether
