/- The law FnExactOrderOnTrack in plain Lean, over the printed functions: it returns true for every input (no condition). -/
import Derived.Test.YtgobnhoblofglaaPFnExactOrderOnTrackx5
import Derived.OpenShut
namespace Go.Proofs.Ytgobnhoblofglaa.QFnExactOrderOnTrack
open Go.RowKit Go.ChangeShapes Go.WideShapes Go.Proofs.Ytgobnhoblofglaa.PFnExactOrderOnTrack Go.Proofs.YtgobnhoblofglaaW.PrintWords Go.Proofs.YtgobnhoblofglaaW.PrintLast Go.Proofs.YtgobnhoblofglaaW.PrintMore
set_option linter.unusedVariables false
set_option linter.unusedSimpArgs false
theorem w64 {x : Int} (h : -9223372036854775808 ≤ x ∧ x ≤ 9223372036854775807) : wrap64 x = x := by unfold wrap64; omega
theorem bm {a b A B : Int} (ha : 0 ≤ a ∧ a ≤ A) (hb : 0 ≤ b ∧ b ≤ B) : 0 ≤ a * b ∧ a * b ≤ A * B :=
  ⟨Int.mul_nonneg ha.1 hb.1, Int.mul_le_mul ha.2 hb.2 hb.1 (Int.le_trans ha.1 ha.2)⟩
theorem gcd_step (a b : Int) (ha : 0 ≤ a) (hb : 0 ≤ b) : Int.gcd b (a.tmod b) = Int.gcd a b := by
  obtain ⟨m, rfl⟩ := Int.eq_ofNat_of_zero_le ha
  obtain ⟨n, rfl⟩ := Int.eq_ofNat_of_zero_le hb
  rw [← Int.ofNat_tmod]
  show Nat.gcd n (m % n) = Nat.gcd m n
  rw [Nat.gcd_comm n, ← Nat.gcd_rec, Nat.gcd_comm]
def lowN (a b : Int) : Int := a / (Int.gcd a b : Int)
def lowD (a b : Int) : Int := b / (Int.gcd a b : Int)
theorem gpos {a b : Int} (hb : 0 < b) : 0 < (Int.gcd a b : Int) := by
  have := Int.gcd_pos_of_ne_zero_right a (show b ≠ 0 by omega)
  omega
theorem gle {a b : Int} (hb : 0 < b) : (Int.gcd a b : Int) ≤ b := Int.le_of_dvd hb (Int.gcd_dvd_right a b)
theorem tdiv_gcd_l (a b : Int) : a.tdiv (Int.gcd a b) = lowN a b := by
  unfold lowN
  exact (Int.tdiv_eq_ediv_of_dvd (Int.gcd_dvd_left a b))
theorem tdiv_gcd_r (a b : Int) : b.tdiv (Int.gcd a b) = lowD a b := by
  unfold lowD
  exact (Int.tdiv_eq_ediv_of_dvd (Int.gcd_dvd_right a b))
theorem low_range {a b M : Int} (hb : 0 < b) (ha : -M ≤ a ∧ a ≤ M) : -M ≤ lowN a b ∧ lowN a b ≤ M := by
  unfold lowN
  have g := gpos (a := a) hb
  have hM : 0 ≤ M := by omega
  have e := Int.ediv_mul_cancel (Int.gcd_dvd_left a b)
  constructor
  · apply Int.le_ediv_of_mul_le g
    have : -M * (Int.gcd a b : Int) ≤ -M * 1 := Int.mul_le_mul_of_nonpos_left (by omega) (by omega)
    omega
  · rcases Int.le_total 0 a with h | h
    · have := Int.ediv_le_self (Int.gcd a b : Int) h
      omega
    · have := Int.ediv_le_ediv g h
      rw [Int.zero_ediv] at this
      omega
theorem lowD_range {a b : Int} (hb : 0 < b) : 1 ≤ lowD a b ∧ lowD a b ≤ b := by
  unfold lowD
  have g := gpos (a := a) hb
  constructor
  · apply Int.le_ediv_of_mul_le g
    have := gle (a := a) hb
    omega
  · exact Int.ediv_le_self _ (by omega)
theorem bms {a b A B : Int} (ha : -A ≤ a ∧ a ≤ A) (hb : 0 ≤ b ∧ b ≤ B) : -(A * B) ≤ a * b ∧ a * b ≤ A * B := by
  have hA : 0 ≤ A := by omega
  rcases Int.le_total 0 a with h | h
  · have := bm ⟨h, ha.2⟩ hb
    have := Int.mul_nonneg hA (Int.le_trans hb.1 hb.2)
    omega
  · have := bm (a := -a) (A := A) ⟨by omega, by omega⟩ hb
    have e : -a * b = -(a * b) := Int.neg_mul a b
    omega
theorem low_scale (a b c : Int) (hc : 0 < c) : lowN (a * c) (b * c) = lowN a b ∧ lowD (a * c) (b * c) = lowD a b := by
  have e : (Int.gcd (a * c) (b * c) : Int) = (Int.gcd a b : Int) * c := by
    rw [Int.gcd_mul_right]
    have : (c.natAbs : Int) = c := by omega
    rw [Int.natCast_mul, this]
  unfold lowN lowD
  rw [e]
  exact ⟨Int.mul_ediv_mul_of_pos_left a _ hc, Int.mul_ediv_mul_of_pos_left b _ hc⟩
theorem w64b {x B : Int} (h : 0 ≤ x ∧ x ≤ B) (hB : B ≤ 9223372036854775807) : wrap64 x = x := w64 ⟨Int.le_trans (by decide) h.1, Int.le_trans h.2 hB⟩
theorem ad {x y A B : Int} (hx : 0 ≤ x ∧ x ≤ A) (hy : 0 ≤ y ∧ y ≤ B) : 0 ≤ x + y ∧ x + y ≤ A + B := ⟨Int.add_nonneg hx.1 hy.1, Int.add_le_add hx.2 hy.2⟩

theorem laws_szRunnerS_eq (l : List S78) (hl : l.length ≤ 9223372036854775807) : laws_szRunnerS.f l 1048576 = some (if 1048576 < l.length then -1 else 1048576 - (l.length : Int)) := by
  unfold laws_szRunnerS.f
  rw [w64 (by omega)]
  by_cases h : 1048576 < l.length
  · rw [if_pos h, if_pos (by omega)]
  · rw [if_neg h, if_neg (by omega)]

theorem spec_l1In_eq (a b c : Int) : spec_l1In.f a b c = some (decide (b ≤ a ∧ a ≤ c)) := by
  unfold spec_l1In.f
  by_cases h : b ≤ a <;> simp [h]

theorem spec_trLap_eq (a : Int) : spec_trLap.f a = some (decide (2 ≤ a ∧ a ≤ 1000)) := by
  simp only [spec_trLap.f, spec_l1In_eq, Option.bind_some]

/-- a runner of a track -/
def isRun (a s v : Int) : Prop := (0 ≤ s ∧ s ≤ a - 1) ∧ (1 ≤ v ∧ v ≤ 100)
instance (a s v : Int) : Decidable (isRun a s v) := by unfold isRun; infer_instance
theorem spec_trRunner_eq (a s v : Int) : spec_trRunner.f a s v = some (decide ((2 ≤ a ∧ a ≤ 1000) ∧ isRun a s v)) := by
  simp only [spec_trRunner.f, spec_trLap_eq, spec_l1In_eq, Option.bind_some]
  by_cases h1 : 2 ≤ a ∧ a ≤ 1000
  · rw [w64 (x := a - 1) (by omega)]
    by_cases h2 : 0 ≤ s ∧ s ≤ a - 1
    · by_cases h3 : 1 ≤ v ∧ v ≤ 100
      · have : isRun a s v := ⟨h2, h3⟩
        simp [h1, h2, h3, this]
      · have : ¬ isRun a s v := fun z => h3 z.2
        simp [h1, h2, h3, this]
    · have : ¬ isRun a s v := fun z => h2 z.1
      simp [h1, h2, this]
  · simp [h1]

theorem spec_trList_l0 (a : Int) (l : List S45) (hl : l.length ≤ 1000000000) (d : Nat) : ∀ (k i : Nat), i + d = l.length → d < k →
    spec_trList.l0 k a l (l.length : Int) (i : Int) = some (decide (∀ x ∈ l.drop i, (2 ≤ a ∧ a ≤ 1000) ∧ isRun a x.f0 x.f1)) := by
  induction d with
  | zero =>
    intro k i hi' hk
    obtain ⟨k, rfl⟩ : ∃ m, k = m + 1 := ⟨k - 1, by omega⟩
    simp only [spec_trList.l0]
    rw [if_neg (by omega), List.drop_of_length_le (by omega)]
    simp
  | succ d ih =>
    intro k i hi' hk
    obtain ⟨k, rfl⟩ : ∃ m, k = m + 1 := ⟨k - 1, by omega⟩
    have hlt : i < l.length := by omega
    have er : rd_T45 l (i : Int) = l[i] := by simp [rd_T45, hlt]
    simp only [spec_trList.l0]
    rw [if_pos (by omega), if_pos (by omega), if_pos (by omega), er, spec_trRunner_eq, List.drop_eq_getElem_cons hlt]
    simp only [Option.bind_some]
    have e1 : wrap64 ((i : Int) + 1) = ((i + 1 : Nat) : Int) := by rw [w64 (by omega)]; rfl
    rw [e1, ih k (i + 1) (by omega) (by omega)]
    have e2 : (∀ x ∈ l[i] :: l.drop (i + 1), (2 ≤ a ∧ a ≤ 1000) ∧ isRun a x.f0 x.f1) ↔ (((2 ≤ a ∧ a ≤ 1000) ∧ isRun a l[i].f0 l[i].f1) ∧ ∀ x ∈ l.drop (i + 1), (2 ≤ a ∧ a ≤ 1000) ∧ isRun a x.f0 x.f1) := List.forall_mem_cons
    by_cases h : (2 ≤ a ∧ a ≤ 1000) ∧ isRun a l[i].f0 l[i].f1
    · rw [decide_eq_true h, if_pos rfl]
      exact congrArg some (decide_eq_decide.mpr (e2.trans ⟨fun z => z.2, fun z => ⟨h, z⟩⟩).symm)
    · rw [decide_eq_false h, if_neg Bool.false_ne_true]
      exact congrArg some (decide_eq_false (fun z => h (e2.1 z).1)).symm
theorem spec_trList_iff (a : Int) (l : List S45) (hl : l.length ≤ 1000000000) (k : Nat) (hk : l.length < k) : ∃ b, spec_trList.f k a l = some b ∧ (b = true ↔ ((1 ≤ l.length ∧ l.length ≤ 6) ∧ ∀ x ∈ l, (2 ≤ a ∧ a ≤ 1000) ∧ isRun a x.f0 x.f1)) := by
  unfold spec_trList.f
  rw [spec_l1In_eq]
  simp only [Option.bind_some]
  by_cases h : 1 ≤ (l.length : Int) ∧ (l.length : Int) ≤ 6
  · have := spec_trList_l0 a l hl l.length k 0 (by omega) hk
    refine ⟨_, by rw [decide_eq_true h, if_pos rfl]; exact this, ?_⟩
    rw [decide_eq_true_eq, List.drop_zero]
    exact ⟨fun z => ⟨by omega, z⟩, fun z => z.2⟩
  · refine ⟨false, by rw [decide_eq_false h]; rfl, ?_⟩
    constructor
    · intro z
      cases z
    · intro z
      exact absurd (by have := z.1; omega) h

theorem spec_trTime_eq (a : Int) : spec_trTime.f a = some (decide (0 ≤ a ∧ a ≤ 1000000)) := by
  simp only [spec_trTime.f, spec_l1In_eq, Option.bind_some]

theorem spec_trFar_eq (s v t : Int) (hs : 0 ≤ s ∧ s ≤ 999) (hv : 1 ≤ v ∧ v ≤ 100) (ht : 0 ≤ t ∧ t ≤ 1000000) : spec_trFar.f s v t = some (s + v * t) := by
  have p := bm (A := 100) (B := 1000000) (a := v) (b := t) (by omega) ht
  unfold spec_trFar.f
  rw [w64 (x := v * t) (by omega), w64 (x := s + v * t) (by omega)]
theorem far_range (s v t : Int) (hs : 0 ≤ s ∧ s ≤ 999) (hv : 1 ≤ v ∧ v ≤ 100) (ht : 0 ≤ t ∧ t ≤ 1000000) : 0 ≤ s + v * t ∧ s + v * t ≤ 100000999 := by
  have p := bm (A := 100) (B := 1000000) (a := v) (b := t) (by omega) ht
  omega

theorem spec_l1Own_eq (l : List Int) (hl : l.length < 17592186044416) : spec_l1Own.f l = some l := by
  unfold spec_l1Own.f
  simp only [Option.bind_some, List.nil_append, List.length_nil]
  rw [if_pos (by omega)]

/-- the list as the program has it -/
def conv (l : List S78) : List S45 := l.map fun x => ⟨x.f0, x.f1⟩
theorem conv_length (l : List S78) : (conv l).length = l.length := by simp [conv]
theorem conv_rd (l : List S78) (i : Nat) (h : i < l.length) : (⟨(rd_T78 l (i : Int)).f0, (rd_T78 l (i : Int)).f1⟩ : S45) = (conv l)[i]'(by rw [conv_length]; exact h) := by
  simp [rd_T78, conv, h]
theorem laws_toRunnerS_l0 (l : List S78) (hl : l.length ≤ 1000000000) (d : Nat) : ∀ (k i : Nat), i + d = l.length → d < k →
    laws_toRunnerS.l0 k l ((conv l).take i ++ List.replicate d z45) (i : Int) = some (conv l) := by
  induction d with
  | zero =>
    intro k i hi hk
    obtain ⟨k, rfl⟩ : ∃ m, k = m + 1 := ⟨k - 1, by omega⟩
    simp only [laws_toRunnerS.l0]
    rw [if_neg (by omega), List.take_of_length_le (by rw [conv_length]; omega)]
    simp
  | succ d ih =>
    intro k i hi hk
    obtain ⟨k, rfl⟩ : ∃ m, k = m + 1 := ⟨k - 1, by omega⟩
    have hlt : i < l.length := by omega
    have hlc : i < (conv l).length := by rw [conv_length]; exact hlt
    have hlen : ((conv l).take i ++ List.replicate (d + 1) z45).length = l.length := by
      rw [List.length_append, List.length_take, List.length_replicate, conv_length]
      omega
    have e1 : wrap64 ((i : Int) + 1) = ((i + 1 : Nat) : Int) := by rw [w64 (by omega)]; rfl
    simp only [laws_toRunnerS.l0, laws_toRunner.f, Option.bind_some]
    rw [if_pos (by omega), if_pos (by omega), hlen, if_pos (by omega), e1]
    have es : ((conv l).take i ++ List.replicate (d + 1) z45).set (i : Int).toNat ⟨(rd_T78 l (i : Int)).f0, (rd_T78 l (i : Int)).f1⟩ = (conv l).take (i + 1) ++ List.replicate d z45 := by
      rw [Int.toNat_natCast, conv_rd l i hlt, List.set_append_right _ _ (by rw [List.length_take]; omega), List.length_take, Nat.min_eq_left (by omega), Nat.sub_self, List.replicate_succ, List.set_cons_zero, List.take_succ_eq_append_getElem hlc, List.append_assoc]
      rfl
    rw [es]
    exact ih k (i + 1) (by omega) (by omega)
theorem laws_toRunnerS_eq (l : List S78) (hl : l.length ≤ 1000000000) (k : Nat) (hk : l.length < k) : laws_toRunnerS.f k l = some (conv l) := by
  unfold laws_toRunnerS.f
  rw [if_pos (Int.natCast_nonneg _), if_pos (by rw [Int.toNat_natCast]; omega), Int.toNat_natCast]
  have := laws_toRunnerS_l0 l hl l.length k 0 (by omega) hk
  simpa using this

theorem impl_within_eq (a b c : Int) : impl_within.f a b c = some (decide (b ≤ a ∧ a ≤ c)) := by
  unfold impl_within.f
  by_cases h : b ≤ a <;> simp [h]

theorem impl_isRunner_eq (a s v : Int) (h1 : 2 ≤ a ∧ a ≤ 1000) : impl_isRunner.f a s v = some (decide (isRun a s v)) := by
  simp only [impl_isRunner.f, impl_within_eq, Option.bind_some]
  rw [w64 (x := a - 1) (by omega)]
  by_cases h2 : 0 ≤ s ∧ s ≤ a - 1
  · by_cases h3 : 1 ≤ v ∧ v ≤ 100
    · have : isRun a s v := ⟨h2, h3⟩
      simp [h2, h3, this]
    · have : ¬ isRun a s v := fun z => h3 z.2
      simp [h2, h3, this]
  · have : ¬ isRun a s v := fun z => h2 z.1
    simp [h2, this]

theorem noRun_eq (a : Int) (x : S45) (h1 : 2 ≤ a ∧ a ≤ 1000) : noRun a x = !(decide (isRun a x.f0 x.f1)) := by
  unfold noRun
  rw [impl_isRunner_eq a x.f0 x.f1 h1]
  rfl
/-- runners of a track -/
def areRun (a : Int) (l : List S45) : Prop := (2 ≤ a ∧ a ≤ 1000) ∧ (1 ≤ l.length ∧ l.length ≤ 6) ∧ ∀ x ∈ l, isRun a x.f0 x.f1
instance (a : Int) (l : List S45) : Decidable (areRun a l) := by unfold areRun; infer_instance
theorem impl_AreRunners_eq (a : Int) (l : List S45) : impl_AreRunners.f a l = some (decide (areRun a l)) := by
  unfold impl_AreRunners.f
  rw [impl_within_eq, impl_within_eq]
  simp only [Option.bind_some]
  by_cases h1 : 2 ≤ a ∧ a ≤ 1000
  · by_cases h2 : 1 ≤ (l.length : Int) ∧ (l.length : Int) ≤ 6
    · simp only [h1, h2, and_self, decide_true, if_true, Option.some.injEq]
      by_cases h3 : ∀ x ∈ l, isRun a x.f0 x.f1
      · have z : areRun a l := ⟨h1, by omega, h3⟩
        rw [decide_eq_true z, Bool.not_eq_true', List.any_eq_false]
        intro x hx
        rw [noRun_eq a x h1]
        simp [h3 x hx]
      · have z : ¬ areRun a l := fun y => h3 y.2.2
        rw [decide_eq_false z, Bool.not_eq_false', List.any_eq_true]
        have ⟨x, hx⟩ := Classical.not_forall.mp h3
        have ⟨hm, hn⟩ := Classical.not_imp.mp hx
        exact ⟨x, hm, by rw [noRun_eq a x h1]; simp [hn]⟩
    · have z : ¬ areRun a l := fun y => h2 (by have := y.2.1; omega)
      simp only [h1, h2, and_self, decide_true, decide_false, if_true, Bool.false_eq_true, if_false, decide_eq_false z]
  · have z : ¬ areRun a l := fun y => h1 y.1
    simp only [h1, decide_false, Bool.false_eq_true, if_false, decide_eq_false z]

theorem impl_isRunTime_eq (a : Int) : impl_isRunTime.f a = some (decide (0 ≤ a ∧ a ≤ 1000000)) := by
  simp only [impl_isRunTime.f, impl_within_eq, Option.bind_some]

def outN (l : List S45) (p : List Nat) : List Int := p.reverse.map fun x => ((x % l.length : Nat) : Int)
theorem outN_length (l : List S45) (p : List Nat) : (outN l p).length = p.length := by simp [outN]
theorem sortRev_range (lt : Nat → Nat → Bool) (i : Nat) : sortRev lt (List.range (i + 1)) [] = insRev lt i (sortRev lt (List.range i) []) := by
  unfold sortRev
  rw [List.range_succ, List.foldl_append]
  rfl
theorem sortRev_range_len (lt : Nat → Nat → Bool) (i : Nat) : (sortRev lt (List.range i) []).length = i := by
  rw [insRev_perm_len, List.length_range, List.length_nil]
  omega
theorem insRev_past (lt : Nat → Nat → Bool) (x : Nat) (s r : List Nat) (h : ∀ y ∈ s, lt x y = true) : insRev lt x (s ++ r) = s ++ insRev lt x r := by
  induction s with
  | nil => rfl
  | cons y s ih =>
    have e : insRev lt x (y :: (s ++ r)) = if lt x y = true then y :: insRev lt x (s ++ r) else x :: y :: (s ++ r) := rfl
    rw [List.cons_append, e, if_pos (h y List.mem_cons_self), ih fun z hz => h z (List.mem_cons_of_mem _ hz), List.cons_append]
theorem spec_Order_inner (l : List S45) (t : Int) (hn : 1 ≤ l.length ∧ l.length ≤ 6) (i : Nat) (hi : i < l.length) (R : List Int × Bool) (r : List Nat) : ∀ (s : List Nat) (k K : Nat), (s ++ r).length = i → (∀ y ∈ s, ltN l t i y = true) → K + r.length < k →
    (∀ k', K ≤ k' → spec_OrderOnTrack.l0 k' l t (outN l (insRev (ltN l t) i (s ++ r))) l (l.length : Int) ((i + 1 : Nat) : Int) = some R) →
    spec_OrderOnTrack.l1 k l t (outN l (s ++ r)) (i : Int) (r.length : Int) l (l.length : Int) (i : Int) ((rd_T45 l (i : Int)).f0) ((rd_T45 l (i : Int)).f1) = some R := by
  have e1 : wrap64 ((i : Int) + 1) = ((i + 1 : Nat) : Int) := by rw [w64 (by omega)]; rfl
  have put : ∀ s r : List Nat, (s ++ r).length = i → insRev (ltN l t) i (s ++ r) = s ++ i :: r → (outN l (s ++ r)).take r.length ++ [(i : Int)] ++ (outN l (s ++ r)).drop r.length = outN l (insRev (ltN l t) i (s ++ r)) := by
    intro s r _ e
    rw [e]
    have em : ((i % l.length : Nat) : Int) = (i : Int) := by rw [Nat.mod_eq_of_lt hi]
    have eo : outN l (s ++ r) = outN l r ++ outN l s := by unfold outN; rw [List.reverse_append, List.map_append]
    have eo2 : outN l (s ++ i :: r) = outN l r ++ [(i : Int)] ++ outN l s := by unfold outN; rw [List.reverse_append, List.reverse_cons, List.map_append, List.map_append, List.map_cons, List.map_nil, em]
    rw [eo, eo2, List.take_append_of_le_length (by rw [outN_length]; exact Nat.le_refl _), List.take_of_length_le (by rw [outN_length]; exact Nat.le_refl _), List.drop_append_of_le_length (by rw [outN_length]; exact Nat.le_refl _), List.drop_of_length_le (by rw [outN_length]; exact Nat.le_refl _), List.nil_append]
  have own : ∀ q : List Int, q.length ≤ 6 → spec_l1Own.f q = some q := fun q hq => spec_l1Own_eq q (by omega)
  induction r with
  | nil =>
    intro s k K hlen hs hk next
    obtain ⟨k, rfl⟩ : ∃ m, k = m + 1 := ⟨k - 1, by omega⟩
    have hp := put s [] hlen (by rw [insRev_past _ _ _ _ hs]; rfl)
    have ho := outN_length l (s ++ [])
    simp only [spec_OrderOnTrack.l1]
    rw [List.length_nil] at hp hk ⊢
    rw [if_neg (by omega), if_pos (by omega), if_pos (by omega)]
    have t0 : ((0 : Nat) : Int).toNat = 0 := rfl
    rw [t0, own _ (by rw [List.length_take]; omega)]
    simp only [Option.bind_some]
    rw [if_pos (by rw [List.length_take]; omega), if_pos (by simp only [List.length_append, List.length_take, List.length_drop, List.length_cons, List.length_nil]; omega), e1, hp]
    exact next k (by omega)
  | cons y r ih =>
    intro s k K hlen hs hk next
    obtain ⟨k, rfl⟩ : ∃ m, k = m + 1 := ⟨k - 1, by omega⟩
    have ho := outN_length l (s ++ y :: r)
    have hl2 := hlen
    rw [List.length_append, List.length_cons] at hl2
    rw [List.length_cons] at hk
    have e2 : wrap64 (((y :: r).length : Int) - 1) = (r.length : Int) := by rw [List.length_cons, w64 (by omega)]; omega
    have hm := Nat.mod_lt y (show l.length > 0 by omega)
    have er : rd (outN l (s ++ y :: r)) (r.length : Int) = ((y % l.length : Nat) : Int) := by
      unfold outN rd
      rw [List.reverse_append, List.reverse_cons, Int.toNat_natCast]
      simp
    simp only [spec_OrderOnTrack.l1, spec_trFar.f]
    rw [e2, er, if_pos (by rw [List.length_cons]; omega), if_pos (by omega), if_pos (by omega), if_pos (by omega), if_pos (by omega)]
    simp only [Option.bind_some]
    have em : ((i % l.length : Nat) : Int) = (i : Int) := by rw [Nat.mod_eq_of_lt hi]
    by_cases c : ltN l t i y = true
    · have c2 := of_decide_eq_true (show decide (farN l t y < farN l t i) = true from c)
      unfold farN at c2
      rw [em] at c2
      rw [if_pos c2]
      have hap : s ++ y :: r = (s ++ [y]) ++ r := by simp
      rw [hap] at next hlen ⊢
      exact ih (s ++ [y]) k K hlen (by
        intro z hz
        rcases List.mem_append.mp hz with h | h
        · exact hs z h
        · rw [List.mem_singleton.mp h]
          exact c) (by omega) next
    · have c2 : ¬ (farN l t y < farN l t i) := fun z => c (decide_eq_true z)
      unfold farN at c2
      rw [em] at c2
      rw [if_neg c2]
      have hp := put s (y :: r) hlen (by rw [insRev_past _ _ _ _ hs]; congr 1; unfold insRev; rw [if_neg c])
      rw [if_pos (by omega), if_pos (by rw [List.length_cons]; omega), Int.toNat_natCast, own _ (by rw [List.length_take]; omega)]
      simp only [Option.bind_some]
      rw [if_pos (by rw [List.length_take]; omega), if_pos (by simp only [List.length_append, List.length_take, List.length_drop, List.length_cons, List.length_nil]; omega), e1, hp]
      exact next k (by omega)
theorem spec_Order_outer (l : List S45) (t : Int) (hn : 1 ≤ l.length ∧ l.length ≤ 6) (q : Nat) : ∀ (k i : Nat), i + q = l.length → 10 * q < k →
    spec_OrderOnTrack.l0 k l t (outN l (sortRev (ltN l t) (List.range i) [])) l (l.length : Int) (i : Int) = some (orderN l t, true) := by
  induction q with
  | zero =>
    intro k i hi hk
    obtain ⟨k, rfl⟩ : ∃ m, k = m + 1 := ⟨k - 1, by omega⟩
    obtain rfl : i = l.length := by omega
    simp only [spec_OrderOnTrack.l0]
    rw [if_neg (by omega)]
    rfl
  | succ q ih =>
    intro k i hi hk
    obtain ⟨k, rfl⟩ : ∃ m, k = m + 1 := ⟨k - 1, by omega⟩
    have hl := sortRev_range_len (ltN l t) i
    simp only [spec_OrderOnTrack.l0]
    rw [if_pos (by omega), if_pos (by omega), if_pos (by omega), outN_length]
    refine spec_Order_inner l t hn i (by omega) (orderN l t, true) (sortRev (ltN l t) (List.range i) []) [] k (10 * q + 1) hl (fun y hy => absurd hy List.not_mem_nil) (by omega) ?_
    intro k' hk'
    rw [List.nil_append, ← sortRev_range]
    exact ih k' (i + 1) (by omega) (by omega)

theorem laws_eqIntS_l0 (l : List Int) (hl : l.length ≤ 1000000000) (d : Nat) : ∀ (k i : Nat), i + d = l.length → d < k → laws_eqIntS.l0 k l l (i : Int) = some true := by
  induction d with
  | zero =>
    intro k i hi hk
    obtain ⟨k, rfl⟩ : ∃ m, k = m + 1 := ⟨k - 1, by omega⟩
    simp only [laws_eqIntS.l0]
    rw [if_neg (by omega)]
  | succ d ih =>
    intro k i hi hk
    obtain ⟨k, rfl⟩ : ∃ m, k = m + 1 := ⟨k - 1, by omega⟩
    have e1 : wrap64 ((i : Int) + 1) = ((i + 1 : Nat) : Int) := by rw [w64 (by omega)]; rfl
    simp only [laws_eqIntS.l0, if_true]
    rw [if_pos (by omega), if_pos (by omega), if_pos (by omega), e1]
    exact ih k (i + 1) (by omega) (by omega)
theorem laws_eqIntS_eq (l : List Int) (hl : l.length ≤ 1000000000) (k : Nat) (hk : l.length < k) : laws_eqIntS.f k l l = some true := by
  unfold laws_eqIntS.f
  rw [if_pos rfl]
  exact laws_eqIntS_l0 l hl l.length k 0 (by omega) hk

theorem laws_eqRunnerS_l0 (l : List S45) (hl : l.length ≤ 1000000000) (d : Nat) : ∀ (k i : Nat), i + d = l.length → d < k → laws_eqRunnerS.l0 k l l (i : Int) = some true := by
  induction d with
  | zero =>
    intro k i hi hk
    obtain ⟨k, rfl⟩ : ∃ m, k = m + 1 := ⟨k - 1, by omega⟩
    simp only [laws_eqRunnerS.l0]
    rw [if_neg (by omega)]
  | succ d ih =>
    intro k i hi hk
    obtain ⟨k, rfl⟩ : ∃ m, k = m + 1 := ⟨k - 1, by omega⟩
    have e1 : wrap64 ((i : Int) + 1) = ((i + 1 : Nat) : Int) := by rw [w64 (by omega)]; rfl
    simp only [laws_eqRunnerS.l0, laws_eqRunner.f, if_true, Option.bind_some]
    rw [if_pos (by omega), if_pos (by omega), if_pos (by omega), e1]
    exact ih k (i + 1) (by omega) (by omega)
theorem laws_eqRunnerS_eq (l : List S45) (hl : l.length ≤ 1000000000) (k : Nat) (hk : l.length < k) : laws_eqRunnerS.f k l l = some true := by
  unfold laws_eqRunnerS.f
  rw [if_pos rfl]
  exact laws_eqRunnerS_l0 l hl l.length k 0 (by omega) hk

theorem laws_markRunnerS_l0 (n : Nat) (hl : n ≤ 1000000000) (d : Nat) : ∀ (k i : Nat) (l : List S45), l.length = n → i + d = n → d < k →
    ∃ l', laws_markRunnerS.l0 k l (2 * (i : Int) + 1) (i : Int) = some (2 * (n : Int) + 1, l') := by
  induction d with
  | zero =>
    intro k i l hn hi hk
    obtain ⟨k, rfl⟩ : ∃ m, k = m + 1 := ⟨k - 1, by omega⟩
    obtain rfl : i = n := by omega
    refine ⟨l, ?_⟩
    simp only [laws_markRunnerS.l0]
    rw [if_neg (by omega)]
  | succ d ih =>
    intro k i l hn hi hk
    obtain ⟨k, rfl⟩ : ∃ m, k = m + 1 := ⟨k - 1, by omega⟩
    have e1 : wrap64 ((i : Int) + 1) = ((i + 1 : Nat) : Int) := by rw [w64 (by omega)]; rfl
    have e2 : wrap64 (wrap64 (2 * (i : Int) + 1 + 1) + 1) = 2 * ((i + 1 : Nat) : Int) + 1 := by
      rw [w64 (x := 2 * (i : Int) + 1 + 1) (by omega), w64 (by omega)]
      omega
    simp only [laws_markRunnerS.l0, Option.bind_some]
    rw [if_pos (by omega), if_pos (by omega), e1, e2]
    exact ih k (i + 1) _ (by simp only [List.length_set]; exact hn) (by omega) (by omega)
theorem laws_markRunnerS_eq (l : List S45) (hl : l.length ≤ 1000000000) (k : Nat) (hk : l.length < k) : ∃ l', laws_markRunnerS.f k l 1 = some (2 * (l.length : Int) + 1, l') := by
  unfold laws_markRunnerS.f
  exact laws_markRunnerS_l0 l.length hl l.length k 0 l rfl (by omega) hk

/-- 1, 2, .. -/
def upto (n : Nat) : List Int := (List.range n).map fun (j : Nat) => (j : Int) + 1
theorem upto_length (n : Nat) : (upto n).length = n := by simp [upto]
theorem laws_markIntS_l0 (l : List Int) (hl : l.length ≤ 1000000000) (d : Nat) : ∀ (k i : Nat), i + d = l.length → d < k →
    laws_markIntS.l0 k (upto i ++ l.drop i) ((i : Int) + 1) (i : Int) = some ((l.length : Int) + 1, upto l.length) := by
  induction d with
  | zero =>
    intro k i hi hk
    obtain ⟨k, rfl⟩ : ∃ m, k = m + 1 := ⟨k - 1, by omega⟩
    obtain rfl : i = l.length := by omega
    simp only [laws_markIntS.l0]
    rw [List.drop_of_length_le (Nat.le_refl _), List.append_nil, upto_length, if_neg (by omega)]
  | succ d ih =>
    intro k i hi hk
    obtain ⟨k, rfl⟩ : ∃ m, k = m + 1 := ⟨k - 1, by omega⟩
    have hlt : i < l.length := by omega
    have hlen : (upto i ++ l.drop i).length = l.length := by
      rw [List.length_append, upto_length, List.length_drop]
      omega
    have e1 : wrap64 ((i : Int) + 1) = ((i + 1 : Nat) : Int) := by rw [w64 (by omega)]; rfl
    have e2 : wrap64 ((i : Int) + 1 + 1) = ((i + 1 : Nat) : Int) + 1 := by rw [w64 (by omega)]; rfl
    have es : (upto i ++ l.drop i).set (i : Int).toNat ((i : Int) + 1) = upto (i + 1) ++ l.drop (i + 1) := by
      rw [Int.toNat_natCast, List.set_append_right _ _ (by rw [upto_length]; exact Nat.le_refl _), upto_length, Nat.sub_self, List.drop_eq_getElem_cons hlt, List.set_cons_zero]
      unfold upto
      rw [List.range_succ, List.map_append, List.append_assoc]
      rfl
    simp only [laws_markIntS.l0]
    rw [hlen, if_pos (by omega), if_pos (by omega), e1, e2, es]
    exact ih k (i + 1) (by omega) (by omega)
theorem laws_markIntS_eq (l : List Int) (hl : l.length ≤ 1000000000) (k : Nat) (hk : l.length < k) : laws_markIntS.f k l 1 = some ((l.length : Int) + 1, upto l.length) := by
  unfold laws_markIntS.f
  exact laws_markIntS_l0 l hl l.length k 0 (by omega) hk

theorem laws_heldIntS_l0 (n : Nat) (hl : n ≤ 1000000000) (d : Nat) : ∀ (k i : Nat), i + d = n → d < k → laws_heldIntS.l0 k (upto n) ((i : Int) + 1) (i : Int) = some ((n : Int) + 1) := by
  induction d with
  | zero =>
    intro k i hi hk
    obtain ⟨k, rfl⟩ : ∃ m, k = m + 1 := ⟨k - 1, by omega⟩
    obtain rfl : i = n := by omega
    simp only [laws_heldIntS.l0]
    rw [upto_length, if_neg (by omega)]
  | succ d ih =>
    intro k i hi hk
    obtain ⟨k, rfl⟩ : ∃ m, k = m + 1 := ⟨k - 1, by omega⟩
    have hlt : i < n := by omega
    have e1 : wrap64 ((i : Int) + 1) = ((i + 1 : Nat) : Int) := by rw [w64 (by omega)]; rfl
    have e2 : wrap64 ((i : Int) + 1 + 1) = ((i + 1 : Nat) : Int) + 1 := by rw [w64 (by omega)]; rfl
    have er : rd (upto n) (i : Int) = (i : Int) + 1 := by simp [rd, upto, hlt]
    simp only [laws_heldIntS.l0]
    rw [upto_length, if_pos (by omega), if_pos (by omega), er, if_pos rfl, e1, e2]
    exact ih k (i + 1) (by omega) (by omega)
theorem laws_heldIntS_eq (n : Nat) (hl : n ≤ 1000000000) (k : Nat) (hk : n < k) : laws_heldIntS.f k (upto n) 1 = some ((n : Int) + 1) := by
  unfold laws_heldIntS.f
  exact laws_heldIntS_l0 n hl n k 0 (by omega) hk

theorem spec_trList_eq (a : Int) (l : List S45) (hl : l.length ≤ 1000000000) (k : Nat) (hk : l.length < k) : spec_trList.f k a l = some (decide (areRun a l)) := by
  obtain ⟨b, h1, h2⟩ := spec_trList_iff a l hl k hk
  rw [h1]
  congr 1
  rw [Bool.eq_iff_iff, decide_eq_true_eq, h2]
  unfold areRun
  constructor
  · rintro ⟨y, z⟩
    have ⟨q, hq⟩ : ∃ q, q ∈ l := List.exists_mem_of_length_pos (by omega)
    exact ⟨(z q hq).1, y, fun q hq => (z q hq).2⟩
  · rintro ⟨x, y, z⟩
    exact ⟨y, fun q hq => ⟨x, z q hq⟩⟩
theorem spec_OrderOnTrack_yes (a : Int) (l : List S45) (t : Int) (h : areRun a l) (ht : 0 ≤ t ∧ t ≤ 1000000) (k : Nat) (hk : 100 < k) : spec_OrderOnTrack.f k a l t = some (orderN l t, true) := by
  have hl := h.2.1
  obtain ⟨k, rfl⟩ : ∃ m, k = m + 1 := ⟨k - 1, by omega⟩
  unfold spec_OrderOnTrack.f
  rw [spec_trList_eq a l (by omega) (k + 1) (by omega), decide_eq_true h, spec_trTime_eq, decide_eq_true ht]
  simp only [Option.bind_some, if_true, spec_OrderOnTrack.j0, Bool.not_true, Bool.false_eq_true, if_false]
  exact spec_Order_outer l t hl l.length k 0 (by omega) (by omega)
theorem spec_OrderOnTrack_no (a : Int) (l : List S45) (t : Int) (hl : l.length ≤ 1000000000) (h : ¬ (areRun a l ∧ (0 ≤ t ∧ t ≤ 1000000))) (k : Nat) (hk : l.length < k) : spec_OrderOnTrack.f k a l t = some ([], false) := by
  obtain ⟨k, rfl⟩ : ∃ m, k = m + 1 := ⟨k - 1, by omega⟩
  unfold spec_OrderOnTrack.f
  rw [spec_trList_eq a l hl (k + 1) (by omega)]
  by_cases z : areRun a l
  · have ht : ¬ (0 ≤ t ∧ t ≤ 1000000) := fun y => h ⟨z, y⟩
    rw [decide_eq_true z, spec_trTime_eq, decide_eq_false ht]
    simp only [Option.bind_some, if_true, spec_OrderOnTrack.j0, Bool.not_false]
  · rw [decide_eq_false z]
    simp only [Option.bind_some, Bool.false_eq_true, if_false, spec_OrderOnTrack.j0, if_true]
theorem impl_OrderOnTrack_yes (a : Int) (l : List S45) (t : Int) (h : areRun a l) (ht : 0 ≤ t ∧ t ≤ 1000000) : impl_OrderOnTrack.f a l t = some (orderN l t, true) := by
  unfold impl_OrderOnTrack.f
  rw [impl_AreRunners_eq, decide_eq_true h, impl_isRunTime_eq, decide_eq_true ht]
  rfl
theorem impl_OrderOnTrack_no (a : Int) (l : List S45) (t : Int) (h : ¬ (areRun a l ∧ (0 ≤ t ∧ t ≤ 1000000))) : impl_OrderOnTrack.f a l t = some ([], false) := by
  unfold impl_OrderOnTrack.f
  rw [impl_AreRunners_eq]
  by_cases z : areRun a l
  · have ht : ¬ (0 ≤ t ∧ t ≤ 1000000) := fun y => h ⟨z, y⟩
    rw [decide_eq_true z, impl_isRunTime_eq, decide_eq_false ht]
    rfl
  · rw [decide_eq_false z]
    rfl
theorem holds (a : Int) (l : List S78) (t : Int) (_ : (Lit.int .i64 a).wf = true) (hm : l.length ≤ 9223372036854775807) (_ : (Lit.int .i64 t).wf = true) : ∃ k, laws_FnExactOrderOnTrack.f k a l t = some true := by
  by_cases hb : 1048576 < l.length
  · exact ⟨0, by simp [laws_FnExactOrderOnTrack.f, laws_szRunnerS_eq l hm, hb]⟩
  · obtain ⟨k, hk⟩ : ∃ k : Nat, 1048600 < k := ⟨1048601, by decide⟩
    refine ⟨k + 1 + 1 + 1, ?_⟩
    have hc : (conv l).length = l.length := conv_length l
    have h4 : ¬ (1048576 - (l.length : Int)) < 0 := by omega
    obtain ⟨out, b, hs, hi, hlen⟩ : ∃ out b, spec_OrderOnTrack.f (k + 1 + 1 + 1) a (conv l) t = some (out, b) ∧ impl_OrderOnTrack.f a (conv l) t = some (out, b) ∧ out.length ≤ 1048576 := by
      by_cases h : areRun a (conv l) ∧ (0 ≤ t ∧ t ≤ 1000000)
      · exact ⟨_, _, spec_OrderOnTrack_yes a (conv l) t h.1 h.2 _ (by omega), impl_OrderOnTrack_yes a (conv l) t h.1 h.2, by rw [orderN_length]; omega⟩
      · exact ⟨_, _, spec_OrderOnTrack_no a (conv l) t (by omega) h _ (by omega), impl_OrderOnTrack_no a (conv l) t h, Nat.zero_le _⟩
    have c0 := laws_toRunnerS_eq l (by omega) (k + 1 + 1 + 1) (by omega)
    have c1 := laws_toRunnerS_eq l (by omega) (k + 1 + 1) (by omega)
    have c2 := laws_toRunnerS_eq l (by omega) (k + 1) (by omega)
    have q0 := laws_eqIntS_eq out (by omega) (k + 1 + 1 + 1) (by omega)
    have q1 := laws_eqIntS_eq out (by omega) (k + 1 + 1) (by omega)
    have q2 := laws_eqIntS_eq out (by omega) (k + 1) (by omega)
    have r1 := laws_eqRunnerS_eq (conv l) (by omega) (k + 1 + 1) (by omega)
    obtain ⟨ml, m1⟩ := laws_markRunnerS_eq (conv l) (by omega) (k + 1 + 1) (by omega)
    have m2 := laws_markIntS_eq out (by omega) (k + 1) (by omega)
    have h1 := laws_heldIntS_eq out.length (by omega) (k + 1) (by omega)
    have h2 := laws_heldIntS_eq out.length (by omega) k (by omega)
    have hn1 : ¬ (2 * ((conv l).length : Int) + 1 < 0) := by omega
    have hn2 : ¬ ((out.length : Int) + 1 < 0) := by omega
    simp only [laws_FnExactOrderOnTrack.f, laws_szRunnerS_eq l hm, hb, if_false, Option.bind_some, h4, c0, hs, hi, q0, if_true, bne_self_eq_false, laws_FnExactOrderOnTrack.j0, Bool.false_eq_true, c1, r1, m1, hn1, q1, laws_FnExactOrderOnTrack.j1, m2, h1, hn2, c2, q2, laws_FnExactOrderOnTrack.j2, h2]

end Go.Proofs.Ytgobnhoblofglaa.QFnExactOrderOnTrack
