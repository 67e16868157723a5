/- The law FnExactMeetingTimes in plain Lean, over the printed functions: it returns true for every input (no condition). -/
import Derived.Test.YtkehnndlladnlaaPFnExactMeetingTimesx4
import Derived.OpenShut
namespace Go.Proofs.Ytkehnndlladnlaa.QFnExactMeetingTimes
open Go.RowKit Go.ChangeShapes Go.WideShapes Go.Proofs.Ytkehnndlladnlaa.PFnExactMeetingTimes Go.Proofs.YtkehnndlladnlaaW.PrintWords Go.Proofs.YtkehnndlladnlaaW.PrintLast Go.Proofs.YtkehnndlladnlaaW.PrintMore
set_option linter.unusedVariables false
set_option linter.unusedSimpArgs false
theorem w64 {x : Int} (h : -9223372036854775808 ≤ x ∧ x ≤ 9223372036854775807) : wrap64 x = x := by unfold wrap64; omega
theorem bm {a b A B : Int} (ha : 0 ≤ a ∧ a ≤ A) (hb : 0 ≤ b ∧ b ≤ B) : 0 ≤ a * b ∧ a * b ≤ A * B :=
  ⟨Int.mul_nonneg ha.1 hb.1, Int.mul_le_mul ha.2 hb.2 hb.1 (Int.le_trans ha.1 ha.2)⟩
theorem gcd_step (a b : Int) (ha : 0 ≤ a) (hb : 0 ≤ b) : Int.gcd b (a.tmod b) = Int.gcd a b := by
  obtain ⟨m, rfl⟩ := Int.eq_ofNat_of_zero_le ha
  obtain ⟨n, rfl⟩ := Int.eq_ofNat_of_zero_le hb
  rw [← Int.ofNat_tmod]
  show Nat.gcd n (m % n) = Nat.gcd m n
  rw [Nat.gcd_comm n, ← Nat.gcd_rec, Nat.gcd_comm]
def lowN (a b : Int) : Int := a / (Int.gcd a b : Int)
def lowD (a b : Int) : Int := b / (Int.gcd a b : Int)
theorem gpos {a b : Int} (hb : 0 < b) : 0 < (Int.gcd a b : Int) := by
  have := Int.gcd_pos_of_ne_zero_right a (show b ≠ 0 by omega)
  omega
theorem gle {a b : Int} (hb : 0 < b) : (Int.gcd a b : Int) ≤ b := Int.le_of_dvd hb (Int.gcd_dvd_right a b)
theorem tdiv_gcd_l (a b : Int) : a.tdiv (Int.gcd a b) = lowN a b := by
  unfold lowN
  exact (Int.tdiv_eq_ediv_of_dvd (Int.gcd_dvd_left a b))
theorem tdiv_gcd_r (a b : Int) : b.tdiv (Int.gcd a b) = lowD a b := by
  unfold lowD
  exact (Int.tdiv_eq_ediv_of_dvd (Int.gcd_dvd_right a b))
theorem low_range {a b M : Int} (hb : 0 < b) (ha : -M ≤ a ∧ a ≤ M) : -M ≤ lowN a b ∧ lowN a b ≤ M := by
  unfold lowN
  have g := gpos (a := a) hb
  have hM : 0 ≤ M := by omega
  have e := Int.ediv_mul_cancel (Int.gcd_dvd_left a b)
  constructor
  · apply Int.le_ediv_of_mul_le g
    have : -M * (Int.gcd a b : Int) ≤ -M * 1 := Int.mul_le_mul_of_nonpos_left (by omega) (by omega)
    omega
  · rcases Int.le_total 0 a with h | h
    · have := Int.ediv_le_self (Int.gcd a b : Int) h
      omega
    · have := Int.ediv_le_ediv g h
      rw [Int.zero_ediv] at this
      omega
theorem lowD_range {a b : Int} (hb : 0 < b) : 1 ≤ lowD a b ∧ lowD a b ≤ b := by
  unfold lowD
  have g := gpos (a := a) hb
  constructor
  · apply Int.le_ediv_of_mul_le g
    have := gle (a := a) hb
    omega
  · exact Int.ediv_le_self _ (by omega)
theorem bms {a b A B : Int} (ha : -A ≤ a ∧ a ≤ A) (hb : 0 ≤ b ∧ b ≤ B) : -(A * B) ≤ a * b ∧ a * b ≤ A * B := by
  have hA : 0 ≤ A := by omega
  rcases Int.le_total 0 a with h | h
  · have := bm ⟨h, ha.2⟩ hb
    have := Int.mul_nonneg hA (Int.le_trans hb.1 hb.2)
    omega
  · have := bm (a := -a) (A := A) ⟨by omega, by omega⟩ hb
    have e : -a * b = -(a * b) := Int.neg_mul a b
    omega
theorem low_scale (a b c : Int) (hc : 0 < c) : lowN (a * c) (b * c) = lowN a b ∧ lowD (a * c) (b * c) = lowD a b := by
  have e : (Int.gcd (a * c) (b * c) : Int) = (Int.gcd a b : Int) * c := by
    rw [Int.gcd_mul_right]
    have : (c.natAbs : Int) = c := by omega
    rw [Int.natCast_mul, this]
  unfold lowN lowD
  rw [e]
  exact ⟨Int.mul_ediv_mul_of_pos_left a _ hc, Int.mul_ediv_mul_of_pos_left b _ hc⟩
theorem w64b {x B : Int} (h : 0 ≤ x ∧ x ≤ B) (hB : B ≤ 9223372036854775807) : wrap64 x = x := w64 ⟨Int.le_trans (by decide) h.1, Int.le_trans h.2 hB⟩
theorem ad {x y A B : Int} (hx : 0 ≤ x ∧ x ≤ A) (hy : 0 ≤ y ∧ y ≤ B) : 0 ≤ x + y ∧ x + y ≤ A + B := ⟨Int.add_nonneg hx.1 hy.1, Int.add_le_add hx.2 hy.2⟩

theorem spec_l1In_eq (a b c : Int) : spec_l1In.f a b c = some (decide (b ≤ a ∧ a ≤ c)) := by
  unfold spec_l1In.f
  by_cases h : b ≤ a <;> simp [h]

theorem spec_trLap_eq (a : Int) : spec_trLap.f a = some (decide (2 ≤ a ∧ a ≤ 1000)) := by
  simp only [spec_trLap.f, spec_l1In_eq, Option.bind_some]

/-- a runner of a track -/
def isRun (a s v : Int) : Prop := (0 ≤ s ∧ s ≤ a - 1) ∧ (1 ≤ v ∧ v ≤ 100)
instance (a s v : Int) : Decidable (isRun a s v) := by unfold isRun; infer_instance
theorem spec_trRunner_eq (a s v : Int) : spec_trRunner.f a s v = some (decide ((2 ≤ a ∧ a ≤ 1000) ∧ isRun a s v)) := by
  simp only [spec_trRunner.f, spec_trLap_eq, spec_l1In_eq, Option.bind_some]
  by_cases h1 : 2 ≤ a ∧ a ≤ 1000
  · rw [w64 (x := a - 1) (by omega)]
    by_cases h2 : 0 ≤ s ∧ s ≤ a - 1
    · by_cases h3 : 1 ≤ v ∧ v ≤ 100
      · have : isRun a s v := ⟨h2, h3⟩
        simp [h1, h2, h3, this]
      · have : ¬ isRun a s v := fun z => h3 z.2
        simp [h1, h2, h3, this]
    · have : ¬ isRun a s v := fun z => h2 z.1
      simp [h1, h2, this]
  · simp [h1]

theorem spec_trTwo_eq (a s v t u : Int) : spec_trTwo.f a s v t u = some (decide (((2 ≤ a ∧ a ≤ 1000) ∧ isRun a s v) ∧ ((2 ≤ a ∧ a ≤ 1000) ∧ isRun a t u))) := by
  simp only [spec_trTwo.f, spec_trRunner_eq, Option.bind_some]
  by_cases h : (2 ≤ a ∧ a ≤ 1000) ∧ isRun a s v <;> simp [h]

theorem spec_trFar_eq (s v t : Int) (hs : 0 ≤ s ∧ s ≤ 999) (hv : 1 ≤ v ∧ v ≤ 100) (ht : 0 ≤ t ∧ t ≤ 1000000) : spec_trFar.f s v t = some (s + v * t) := by
  have p := bm (A := 100) (B := 1000000) (a := v) (b := t) (by omega) ht
  unfold spec_trFar.f
  rw [w64 (x := v * t) (by omega), w64 (x := s + v * t) (by omega)]
theorem far_range (s v t : Int) (hs : 0 ≤ s ∧ s ≤ 999) (hv : 1 ≤ v ∧ v ≤ 100) (ht : 0 ≤ t ∧ t ≤ 1000000) : 0 ≤ s + v * t ∧ s + v * t ≤ 100000999 := by
  have p := bm (A := 100) (B := 1000000) (a := v) (b := t) (by omega) ht
  omega

theorem spec_trPlace_eq (a s v t : Int) (ha : 2 ≤ a ∧ a ≤ 1000) (hs : 0 ≤ s ∧ s ≤ 999) (hv : 1 ≤ v ∧ v ≤ 100) (ht : 0 ≤ t ∧ t ≤ 1000000) : spec_trPlace.f a s v t = some ((s + v * t) % a) := by
  have p := far_range s v t hs hv ht
  unfold spec_trPlace.f
  rw [spec_trFar_eq s v t hs hv ht]
  simp only [Option.bind_some]
  rw [if_neg (by omega), Int.tmod_eq_emod_of_nonneg p.1]

theorem impl_within_eq (a b c : Int) : impl_within.f a b c = some (decide (b ≤ a ∧ a ≤ c)) := by
  unfold impl_within.f
  by_cases h : b ≤ a <;> simp [h]

theorem impl_isRunner_eq (a s v : Int) (h1 : 2 ≤ a ∧ a ≤ 1000) : impl_isRunner.f a s v = some (decide (isRun a s v)) := by
  simp only [impl_isRunner.f, impl_within_eq, Option.bind_some]
  rw [w64 (x := a - 1) (by omega)]
  by_cases h2 : 0 ≤ s ∧ s ≤ a - 1
  · by_cases h3 : 1 ≤ v ∧ v ≤ 100
    · have : isRun a s v := ⟨h2, h3⟩
      simp [h2, h3, this]
    · have : ¬ isRun a s v := fun z => h3 z.2
      simp [h2, h3, this]
  · have : ¬ isRun a s v := fun z => h2 z.1
    simp [h2, this]

theorem noRun_eq (a : Int) (x : S26) (h1 : 2 ≤ a ∧ a ≤ 1000) : noRun a x = !(decide (isRun a x.f0 x.f1)) := by
  unfold noRun
  rw [impl_isRunner_eq a x.f0 x.f1 h1]
  rfl
/-- runners of a track -/
def areRun (a : Int) (l : List S26) : Prop := (2 ≤ a ∧ a ≤ 1000) ∧ (1 ≤ l.length ∧ l.length ≤ 6) ∧ ∀ x ∈ l, isRun a x.f0 x.f1
instance (a : Int) (l : List S26) : Decidable (areRun a l) := by unfold areRun; infer_instance
theorem impl_AreRunners_eq (a : Int) (l : List S26) : impl_AreRunners.f a l = some (decide (areRun a l)) := by
  unfold impl_AreRunners.f
  rw [impl_within_eq, impl_within_eq]
  simp only [Option.bind_some]
  by_cases h1 : 2 ≤ a ∧ a ≤ 1000
  · by_cases h2 : 1 ≤ (l.length : Int) ∧ (l.length : Int) ≤ 6
    · simp only [h1, h2, and_self, decide_true, if_true, Option.some.injEq]
      by_cases h3 : ∀ x ∈ l, isRun a x.f0 x.f1
      · have z : areRun a l := ⟨h1, by omega, h3⟩
        rw [decide_eq_true z, Bool.not_eq_true', List.any_eq_false]
        intro x hx
        rw [noRun_eq a x h1]
        simp [h3 x hx]
      · have z : ¬ areRun a l := fun y => h3 y.2.2
        rw [decide_eq_false z, Bool.not_eq_false', List.any_eq_true]
        have ⟨x, hx⟩ := Classical.not_forall.mp h3
        have ⟨hm, hn⟩ := Classical.not_imp.mp hx
        exact ⟨x, hm, by rw [noRun_eq a x h1]; simp [hn]⟩
    · have z : ¬ areRun a l := fun y => h2 (by have := y.2.1; omega)
      simp only [h1, h2, and_self, decide_true, decide_false, if_true, Bool.false_eq_true, if_false, decide_eq_false z]
  · have z : ¬ areRun a l := fun y => h1 y.1
    simp only [h1, decide_false, Bool.false_eq_true, if_false, decide_eq_false z]

theorem impl_onTrack_eq (a : Int) (l : List S26) : impl_onTrack.f a l = some (decide (areRun a l)) := by
  unfold impl_onTrack.f
  rw [impl_AreRunners_eq]
  rfl
theorem areRun_two (a s v t u : Int) : areRun a [⟨s, v⟩, ⟨t, u⟩] ↔ ((2 ≤ a ∧ a ≤ 1000) ∧ isRun a s v) ∧ ((2 ≤ a ∧ a ≤ 1000) ∧ isRun a t u) := by
  unfold areRun
  simp
  constructor
  · rintro ⟨h1, h2, h3⟩
    exact ⟨⟨h1, h2⟩, h1, h3⟩
  · rintro ⟨⟨h1, h2⟩, _, h3⟩
    exact ⟨h1, h2, h3⟩

theorem impl_farAt_eq (s v t : Int) (hs : 0 ≤ s ∧ s ≤ 999) (hv : 1 ≤ v ∧ v ≤ 100) (ht : 0 ≤ t ∧ t ≤ 1000000) : impl_farAt.f s v t = some (s + v * t) := by
  have p := bm (A := 100) (B := 1000000) (a := v) (b := t) (by omega) ht
  unfold impl_farAt.f
  rw [w64 (x := v * t) (by omega), w64 (x := s + v * t) (by omega)]

def farP (x : S26) (t : Int) : Int := x.f0 + x.f1 * t
theorem spot_eq (a t : Int) (x : S26) (ha : 2 ≤ a ∧ a ≤ 1000) (ht : 0 ≤ t ∧ t ≤ 1000000) (hx : isRun a x.f0 x.f1) : spot a t x = farP x t % a := by
  unfold isRun at hx
  have f := far_range x.f0 x.f1 t (by omega) hx.2 ht
  have p := bm (A := 100) (B := 1000000) (a := x.f1) (b := t) (by omega) ht
  unfold spot farP
  rw [w64 (x := x.f1 * t) (by omega), w64 (x := x.f0 + x.f1 * t) (by omega), Int.tmod_eq_emod_of_nonneg f.1]
/-- all at one place -/
def tog (a : Int) (l : List S26) (t : Int) : Prop := ∀ x ∈ l, farP x t % a = farP (rd_T26 l 0) t % a
instance (a : Int) (l : List S26) (t : Int) : Decidable (tog a l t) := by unfold tog; infer_instance
theorem impl_areTogether_eq (a t : Int) (l : List S26) (h : areRun a l) (ht : 0 ≤ t ∧ t ≤ 1000000) : impl_areTogether.f a t l = some (decide (tog a l t)) := by
  obtain ⟨ha, hl, hv⟩ := h
  have h0 : rd_T26 l 0 ∈ l := by
    have e : rd_T26 l 0 = l[0] := by
      have : 0 < l.length := by omega
      simp [rd_T26, this]
    rw [e]
    exact List.getElem_mem _
  unfold impl_areTogether.f
  rw [if_neg (by omega), if_pos (by omega)]
  refine congrArg some ?_
  by_cases z : tog a l t
  · rw [decide_eq_true z, Bool.not_eq_true', List.any_eq_false]
    intro x hx
    rw [spot_eq a t x ha ht (hv x hx), spot_eq a t _ ha ht (hv _ h0), z x hx]
    simp
  · rw [decide_eq_false z, Bool.not_eq_false', List.any_eq_true]
    have ⟨x, hx⟩ := Classical.not_forall.mp z
    have ⟨hm, hn⟩ := Classical.not_imp.mp hx
    refine ⟨x, hm, ?_⟩
    rw [spot_eq a t x ha ht (hv x hm), spot_eq a t _ ha ht (hv _ h0)]
    simpa using hn

theorem laws_eqIntS_l0 (l : List Int) (hl : l.length ≤ 1000000000) (d : Nat) : ∀ (k i : Nat), i + d = l.length → d < k → laws_eqIntS.l0 k l l (i : Int) = some true := by
  induction d with
  | zero =>
    intro k i hi hk
    obtain ⟨k, rfl⟩ : ∃ m, k = m + 1 := ⟨k - 1, by omega⟩
    simp only [laws_eqIntS.l0]
    rw [if_neg (by omega)]
  | succ d ih =>
    intro k i hi hk
    obtain ⟨k, rfl⟩ : ∃ m, k = m + 1 := ⟨k - 1, by omega⟩
    have e1 : wrap64 ((i : Int) + 1) = ((i + 1 : Nat) : Int) := by rw [w64 (by omega)]; rfl
    simp only [laws_eqIntS.l0, if_true]
    rw [if_pos (by omega), if_pos (by omega), if_pos (by omega), e1]
    exact ih k (i + 1) (by omega) (by omega)
theorem laws_eqIntS_eq (l : List Int) (hl : l.length ≤ 1000000000) (k : Nat) (hk : l.length < k) : laws_eqIntS.f k l l = some true := by
  unfold laws_eqIntS.f
  rw [if_pos rfl]
  exact laws_eqIntS_l0 l hl l.length k 0 (by omega) hk

/-- 1, 2, .. -/
def upto (n : Nat) : List Int := (List.range n).map fun (j : Nat) => (j : Int) + 1
theorem upto_length (n : Nat) : (upto n).length = n := by simp [upto]
theorem laws_markIntS_l0 (l : List Int) (hl : l.length ≤ 1000000000) (d : Nat) : ∀ (k i : Nat), i + d = l.length → d < k →
    laws_markIntS.l0 k (upto i ++ l.drop i) ((i : Int) + 1) (i : Int) = some ((l.length : Int) + 1, upto l.length) := by
  induction d with
  | zero =>
    intro k i hi hk
    obtain ⟨k, rfl⟩ : ∃ m, k = m + 1 := ⟨k - 1, by omega⟩
    obtain rfl : i = l.length := by omega
    simp only [laws_markIntS.l0]
    rw [List.drop_of_length_le (Nat.le_refl _), List.append_nil, upto_length, if_neg (by omega)]
  | succ d ih =>
    intro k i hi hk
    obtain ⟨k, rfl⟩ : ∃ m, k = m + 1 := ⟨k - 1, by omega⟩
    have hlt : i < l.length := by omega
    have hlen : (upto i ++ l.drop i).length = l.length := by
      rw [List.length_append, upto_length, List.length_drop]
      omega
    have e1 : wrap64 ((i : Int) + 1) = ((i + 1 : Nat) : Int) := by rw [w64 (by omega)]; rfl
    have e2 : wrap64 ((i : Int) + 1 + 1) = ((i + 1 : Nat) : Int) + 1 := by rw [w64 (by omega)]; rfl
    have es : (upto i ++ l.drop i).set (i : Int).toNat ((i : Int) + 1) = upto (i + 1) ++ l.drop (i + 1) := by
      rw [Int.toNat_natCast, List.set_append_right _ _ (by rw [upto_length]; exact Nat.le_refl _), upto_length, Nat.sub_self, List.drop_eq_getElem_cons hlt, List.set_cons_zero]
      unfold upto
      rw [List.range_succ, List.map_append, List.append_assoc]
      rfl
    simp only [laws_markIntS.l0]
    rw [hlen, if_pos (by omega), if_pos (by omega), e1, e2, es]
    exact ih k (i + 1) (by omega) (by omega)
theorem laws_markIntS_eq (l : List Int) (hl : l.length ≤ 1000000000) (k : Nat) (hk : l.length < k) : laws_markIntS.f k l 1 = some ((l.length : Int) + 1, upto l.length) := by
  unfold laws_markIntS.f
  exact laws_markIntS_l0 l hl l.length k 0 (by omega) hk

theorem laws_heldIntS_l0 (n : Nat) (hl : n ≤ 1000000000) (d : Nat) : ∀ (k i : Nat), i + d = n → d < k → laws_heldIntS.l0 k (upto n) ((i : Int) + 1) (i : Int) = some ((n : Int) + 1) := by
  induction d with
  | zero =>
    intro k i hi hk
    obtain ⟨k, rfl⟩ : ∃ m, k = m + 1 := ⟨k - 1, by omega⟩
    obtain rfl : i = n := by omega
    simp only [laws_heldIntS.l0]
    rw [upto_length, if_neg (by omega)]
  | succ d ih =>
    intro k i hi hk
    obtain ⟨k, rfl⟩ : ∃ m, k = m + 1 := ⟨k - 1, by omega⟩
    have hlt : i < n := by omega
    have e1 : wrap64 ((i : Int) + 1) = ((i + 1 : Nat) : Int) := by rw [w64 (by omega)]; rfl
    have e2 : wrap64 ((i : Int) + 1 + 1) = ((i + 1 : Nat) : Int) + 1 := by rw [w64 (by omega)]; rfl
    have er : rd (upto n) (i : Int) = (i : Int) + 1 := by simp [rd, upto, hlt]
    simp only [laws_heldIntS.l0]
    rw [upto_length, if_pos (by omega), if_pos (by omega), er, if_pos rfl, e1, e2]
    exact ih k (i + 1) (by omega) (by omega)
theorem laws_heldIntS_eq (n : Nat) (hl : n ≤ 1000000000) (k : Nat) (hk : n < k) : laws_heldIntS.f k (upto n) 1 = some ((n : Int) + 1) := by
  unfold laws_heldIntS.f
  exact laws_heldIntS_l0 n hl n k 0 (by omega) hk

def mt (c : Int → Bool) : Nat → Int → List Int
  | 0, _ => []
  | d + 1, t => (if c t = true then [t] else []) ++ mt c d (t + 1)
theorem mt_length (c : Int → Bool) (d : Nat) : ∀ t, (mt c d t).length ≤ d := by
  induction d with
  | zero => exact fun _ => Nat.le_refl 0
  | succ d ih =>
    intro t
    have := ih (t + 1)
    unfold mt
    rw [List.length_append]
    split <;> simp only [List.length_cons, List.length_nil] <;> omega
theorem spec_times_l0 (a s v t u : Int) (ha : 2 ≤ a ∧ a ≤ 1000) (h1 : isRun a s v) (h2 : isRun a t u) (n : Int) (hn : 0 ≤ n ∧ n ≤ 10000) (d : Nat) : ∀ (k : Nat) (x : Int) (acc : List Int), x + d = n + 1 → d < k → 0 ≤ x → acc.length ≤ x.toNat →
    spec_MeetingTimes.l0 k a n acc x s v t u = some (acc ++ mt (fun x => decide ((s + v * x) % a = (t + u * x) % a)) d x, true) := by
  have g1 := h1
  have g2 := h2
  unfold isRun at g1 g2
  induction d with
  | zero =>
    intro k x acc hd hk hx hacc
    obtain ⟨k, rfl⟩ : ∃ m, k = m + 1 := ⟨k - 1, by omega⟩
    simp only [spec_MeetingTimes.l0]
    rw [if_neg (by omega)]
    simp [mt]
  | succ d ih =>
    intro k x acc hd hk hx hacc
    obtain ⟨k, rfl⟩ : ∃ m, k = m + 1 := ⟨k - 1, by omega⟩
    simp only [spec_MeetingTimes.l0]
    rw [if_pos (by omega), spec_trPlace_eq a s v x ha (by omega) g1.2 (by omega)]
    simp only [Option.bind_some]
    rw [spec_trPlace_eq a t u x ha (by omega) g2.2 (by omega)]
    simp only [Option.bind_some]
    rw [w64 (x := x + 1) (by omega)]
    show _ = some (acc ++ ((if decide ((s + v * x) % a = (t + u * x) % a) = true then [x] else []) ++ mt _ d (x + 1)), true)
    by_cases z : (s + v * x) % a = (t + u * x) % a
    · rw [if_pos z, if_pos (by omega), decide_eq_true z, if_pos rfl, ih k (x + 1) _ (by omega) (by omega) (by omega) (by rw [List.length_append]; simp only [List.length_cons, List.length_nil]; omega), List.append_assoc]
    · rw [if_neg z, decide_eq_false z, if_neg Bool.false_ne_true, List.nil_append]
      exact ih k (x + 1) _ (by omega) (by omega) (by omega) (by omega)
theorem impl_times_l0 (a s v t u : Int) (ha : areRun a [⟨s, v⟩, ⟨t, u⟩]) (n : Int) (hn : 0 ≤ n ∧ n ≤ 10000) (d : Nat) : ∀ (k : Nat) (x : Int) (acc : List Int), x + d = n + 1 → d < k → 0 ≤ x → acc.length ≤ x.toNat →
    impl_MeetingTimes.l0 k a acc (n + 1) x s v t u = some (acc ++ mt (fun x => decide ((s + v * x) % a = (t + u * x) % a)) d x, true) := by
  induction d with
  | zero =>
    intro k x acc hd hk hx hacc
    obtain ⟨k, rfl⟩ : ∃ m, k = m + 1 := ⟨k - 1, by omega⟩
    simp only [impl_MeetingTimes.l0]
    rw [if_neg (by omega)]
    simp [mt]
  | succ d ih =>
    intro k x acc hd hk hx hacc
    obtain ⟨k, rfl⟩ : ∃ m, k = m + 1 := ⟨k - 1, by omega⟩
    simp only [impl_MeetingTimes.l0]
    rw [if_pos (by omega), impl_areTogether_eq a x _ ha (by omega)]
    simp only [Option.bind_some]
    rw [w64 (x := x + 1) (by omega)]
    have iff1 : tog a [⟨s, v⟩, ⟨t, u⟩] x ↔ (s + v * x) % a = (t + u * x) % a := by
      unfold tog farP
      simp [rd_T26]
      exact eq_comm
    show _ = some (acc ++ ((if decide ((s + v * x) % a = (t + u * x) % a) = true then [x] else []) ++ mt _ d (x + 1)), true)
    by_cases z : (s + v * x) % a = (t + u * x) % a
    · rw [decide_eq_true (iff1.mpr z), if_pos rfl, if_pos (by omega), decide_eq_true z, if_pos rfl, ih k (x + 1) _ (by omega) (by omega) (by omega) (by rw [List.length_append]; simp only [List.length_cons, List.length_nil]; omega), List.append_assoc]
    · rw [decide_eq_false (fun y => z (iff1.mp y)), if_neg Bool.false_ne_true, decide_eq_false z, if_neg Bool.false_ne_true, List.nil_append]
      exact ih k (x + 1) _ (by omega) (by omega) (by omega) (by omega)
theorem finish (k : Nat) (a s v t u n : Int) (W : List Int) (b : Bool) (hW : W.length ≤ 20000) (hk : 1048577 < k) (hs : spec_MeetingTimes.f (k + 2) a s v t u n = some (W, b)) (hi : ∀ j, k ≤ j → impl_MeetingTimes.f j a s v t u n = some (W, b)) :
    laws_FnExactMeetingTimes.f (k + 2) a s v t u n = some true := by
  have h6 : ¬ ((W.length : Int) + 1) < 0 := by omega
  simp only [laws_FnExactMeetingTimes.f, laws_toRunner.f, hs, hi (k + 2) (by omega), laws_eqIntS_eq W (by omega) (k + 2) (by omega), Option.bind_some, if_true, bne_self_eq_false]
  simp only [laws_FnExactMeetingTimes.j0, laws_toRunner.f, Bool.false_eq_true, if_false, laws_markIntS_eq W (by omega) (k + 1) (by omega), laws_heldIntS_eq W.length (by omega) (k + 1) (by omega), h6, hi (k + 1) (by omega), laws_eqIntS_eq W (by omega) (k + 1) (by omega), Option.bind_some, if_true, bne_self_eq_false]
  simp only [laws_FnExactMeetingTimes.j1, Bool.false_eq_true, if_false, laws_heldIntS_eq W.length (by omega) k (by omega), h6, Option.bind_some, if_true]
theorem holds (a s v t u n : Int) (_ : (Lit.int .i64 a).wf = true) (_ : (Lit.int .i64 s).wf = true) (_ : (Lit.int .i64 v).wf = true) (_ : (Lit.int .i64 t).wf = true) (_ : (Lit.int .i64 u).wf = true) (_ : (Lit.int .i64 n).wf = true) :
    ∃ k, laws_FnExactMeetingTimes.f k a s v t u n = some true := by
  obtain ⟨k, hk⟩ : ∃ k : Nat, 1048579 < k := ⟨1048580, by decide⟩
  refine ⟨k + 2, ?_⟩
  have e1 := spec_trTwo_eq a s v t u
  have e2 := impl_onTrack_eq a [⟨s, v⟩, ⟨t, u⟩]
  have e3 := spec_l1In_eq n 0 10000
  have e4 := impl_within_eq n 0 10000
  by_cases h : ((2 ≤ a ∧ a ≤ 1000) ∧ isRun a s v) ∧ ((2 ≤ a ∧ a ≤ 1000) ∧ isRun a t u)
  · have h' := (areRun_two a s v t u).mpr h
    rw [decide_eq_true h] at e1
    rw [decide_eq_true h'] at e2
    by_cases hn : 0 ≤ n ∧ n ≤ 10000
    · rw [decide_eq_true hn] at e3 e4
      obtain ⟨d, hd⟩ : ∃ d : Nat, (0 : Int) + d = n + 1 := ⟨(n + 1).toNat, by omega⟩
      have hl := mt_length (fun x => decide ((s + v * x) % a = (t + u * x) % a)) d 0
      refine finish k a s v t u n (mt (fun x => decide ((s + v * x) % a = (t + u * x) % a)) d 0) true (by omega) (by omega) ?_ ?_
      · simp only [spec_MeetingTimes.f, e1, e3, Option.bind_some, if_true, Bool.not_true, spec_MeetingTimes.j0, Bool.false_eq_true, if_false]
        exact spec_times_l0 a s v t u h.1.1 h.1.2 h.2.2 n hn d (k + 1) 0 [] hd (by omega) (Int.le_refl 0) (Nat.le_refl 0)
      · intro j hj
        obtain ⟨j, rfl⟩ : ∃ m, j = m + 1 := ⟨j - 1, by omega⟩
        simp only [impl_MeetingTimes.f, e2, e4, Option.bind_some, if_true, Bool.not_true, impl_MeetingTimes.j0, Bool.false_eq_true, if_false]
        rw [w64 (x := n + 1) (by omega)]
        exact impl_times_l0 a s v t u h' n hn d j 0 [] hd (by omega) (Int.le_refl 0) (Nat.le_refl 0)
    · rw [decide_eq_false hn] at e3 e4
      refine finish k a s v t u n [] false (by simp) (by omega) ?_ ?_
      · simp only [spec_MeetingTimes.f, e1, e3, Option.bind_some, if_true, Bool.not_false, spec_MeetingTimes.j0]
      · intro j hj
        obtain ⟨j, rfl⟩ : ∃ m, j = m + 1 := ⟨j - 1, by omega⟩
        simp only [impl_MeetingTimes.f, e2, e4, Option.bind_some, if_true, Bool.not_false, impl_MeetingTimes.j0]
  · rw [decide_eq_false h] at e1
    rw [decide_eq_false (fun z => h ((areRun_two a s v t u).mp z))] at e2
    refine finish k a s v t u n [] false (by simp) (by omega) ?_ ?_
    · simp only [spec_MeetingTimes.f, e1, Option.bind_some, Bool.false_eq_true, if_false, spec_MeetingTimes.j0, if_true]
    · intro j hj
      obtain ⟨j, rfl⟩ : ∃ m, j = m + 1 := ⟨j - 1, by omega⟩
      simp only [impl_MeetingTimes.f, e2, Option.bind_some, Bool.false_eq_true, if_false, impl_MeetingTimes.j0, if_true]

end Go.Proofs.Ytkehnndlladnlaa.QFnExactMeetingTimes
