/- The law FnExactMeetingPlaces in plain Lean, over the printed functions: it returns true for every input (no condition). -/
import Derived.Test.YtgpepcjbndhdjaaPFnExactMeetingPlacesx4
import Derived.OpenShut
namespace Go.Proofs.Ytgpepcjbndhdjaa.QFnExactMeetingPlaces
open Go.RowKit Go.ChangeShapes Go.WideShapes Go.Proofs.Ytgpepcjbndhdjaa.PFnExactMeetingPlaces Go.Proofs.YtgpepcjbndhdjaaW.PrintWords Go.Proofs.YtgpepcjbndhdjaaW.PrintLast Go.Proofs.YtgpepcjbndhdjaaW.PrintMore
set_option linter.unusedVariables false
set_option linter.unusedSimpArgs false
theorem w64 {x : Int} (h : -9223372036854775808 ≤ x ∧ x ≤ 9223372036854775807) : wrap64 x = x := by unfold wrap64; omega
theorem bm {a b A B : Int} (ha : 0 ≤ a ∧ a ≤ A) (hb : 0 ≤ b ∧ b ≤ B) : 0 ≤ a * b ∧ a * b ≤ A * B :=
  ⟨Int.mul_nonneg ha.1 hb.1, Int.mul_le_mul ha.2 hb.2 hb.1 (Int.le_trans ha.1 ha.2)⟩
theorem gcd_step (a b : Int) (ha : 0 ≤ a) (hb : 0 ≤ b) : Int.gcd b (a.tmod b) = Int.gcd a b := by
  obtain ⟨m, rfl⟩ := Int.eq_ofNat_of_zero_le ha
  obtain ⟨n, rfl⟩ := Int.eq_ofNat_of_zero_le hb
  rw [← Int.ofNat_tmod]
  show Nat.gcd n (m % n) = Nat.gcd m n
  rw [Nat.gcd_comm n, ← Nat.gcd_rec, Nat.gcd_comm]
def lowN (a b : Int) : Int := a / (Int.gcd a b : Int)
def lowD (a b : Int) : Int := b / (Int.gcd a b : Int)
theorem gpos {a b : Int} (hb : 0 < b) : 0 < (Int.gcd a b : Int) := by
  have := Int.gcd_pos_of_ne_zero_right a (show b ≠ 0 by omega)
  omega
theorem gle {a b : Int} (hb : 0 < b) : (Int.gcd a b : Int) ≤ b := Int.le_of_dvd hb (Int.gcd_dvd_right a b)
theorem tdiv_gcd_l (a b : Int) : a.tdiv (Int.gcd a b) = lowN a b := by
  unfold lowN
  exact (Int.tdiv_eq_ediv_of_dvd (Int.gcd_dvd_left a b))
theorem tdiv_gcd_r (a b : Int) : b.tdiv (Int.gcd a b) = lowD a b := by
  unfold lowD
  exact (Int.tdiv_eq_ediv_of_dvd (Int.gcd_dvd_right a b))
theorem low_range {a b M : Int} (hb : 0 < b) (ha : -M ≤ a ∧ a ≤ M) : -M ≤ lowN a b ∧ lowN a b ≤ M := by
  unfold lowN
  have g := gpos (a := a) hb
  have hM : 0 ≤ M := by omega
  have e := Int.ediv_mul_cancel (Int.gcd_dvd_left a b)
  constructor
  · apply Int.le_ediv_of_mul_le g
    have : -M * (Int.gcd a b : Int) ≤ -M * 1 := Int.mul_le_mul_of_nonpos_left (by omega) (by omega)
    omega
  · rcases Int.le_total 0 a with h | h
    · have := Int.ediv_le_self (Int.gcd a b : Int) h
      omega
    · have := Int.ediv_le_ediv g h
      rw [Int.zero_ediv] at this
      omega
theorem lowD_range {a b : Int} (hb : 0 < b) : 1 ≤ lowD a b ∧ lowD a b ≤ b := by
  unfold lowD
  have g := gpos (a := a) hb
  constructor
  · apply Int.le_ediv_of_mul_le g
    have := gle (a := a) hb
    omega
  · exact Int.ediv_le_self _ (by omega)
theorem bms {a b A B : Int} (ha : -A ≤ a ∧ a ≤ A) (hb : 0 ≤ b ∧ b ≤ B) : -(A * B) ≤ a * b ∧ a * b ≤ A * B := by
  have hA : 0 ≤ A := by omega
  rcases Int.le_total 0 a with h | h
  · have := bm ⟨h, ha.2⟩ hb
    have := Int.mul_nonneg hA (Int.le_trans hb.1 hb.2)
    omega
  · have := bm (a := -a) (A := A) ⟨by omega, by omega⟩ hb
    have e : -a * b = -(a * b) := Int.neg_mul a b
    omega
theorem low_scale (a b c : Int) (hc : 0 < c) : lowN (a * c) (b * c) = lowN a b ∧ lowD (a * c) (b * c) = lowD a b := by
  have e : (Int.gcd (a * c) (b * c) : Int) = (Int.gcd a b : Int) * c := by
    rw [Int.gcd_mul_right]
    have : (c.natAbs : Int) = c := by omega
    rw [Int.natCast_mul, this]
  unfold lowN lowD
  rw [e]
  exact ⟨Int.mul_ediv_mul_of_pos_left a _ hc, Int.mul_ediv_mul_of_pos_left b _ hc⟩
theorem w64b {x B : Int} (h : 0 ≤ x ∧ x ≤ B) (hB : B ≤ 9223372036854775807) : wrap64 x = x := w64 ⟨Int.le_trans (by decide) h.1, Int.le_trans h.2 hB⟩
theorem ad {x y A B : Int} (hx : 0 ≤ x ∧ x ≤ A) (hy : 0 ≤ y ∧ y ≤ B) : 0 ≤ x + y ∧ x + y ≤ A + B := ⟨Int.add_nonneg hx.1 hy.1, Int.add_le_add hx.2 hy.2⟩

theorem laws_eqIntS_l0 (l : List Int) (hl : l.length ≤ 1000000000) (d : Nat) : ∀ (k i : Nat), i + d = l.length → d < k → laws_eqIntS.l0 k l l (i : Int) = some true := by
  induction d with
  | zero =>
    intro k i hi hk
    obtain ⟨k, rfl⟩ : ∃ m, k = m + 1 := ⟨k - 1, by omega⟩
    simp only [laws_eqIntS.l0]
    rw [if_neg (by omega)]
  | succ d ih =>
    intro k i hi hk
    obtain ⟨k, rfl⟩ : ∃ m, k = m + 1 := ⟨k - 1, by omega⟩
    have e1 : wrap64 ((i : Int) + 1) = ((i + 1 : Nat) : Int) := by rw [w64 (by omega)]; rfl
    simp only [laws_eqIntS.l0, if_true]
    rw [if_pos (by omega), if_pos (by omega), if_pos (by omega), e1]
    exact ih k (i + 1) (by omega) (by omega)
theorem laws_eqIntS_eq (l : List Int) (hl : l.length ≤ 1000000000) (k : Nat) (hk : l.length < k) : laws_eqIntS.f k l l = some true := by
  unfold laws_eqIntS.f
  rw [if_pos rfl]
  exact laws_eqIntS_l0 l hl l.length k 0 (by omega) hk

/-- 1, 2, .. -/
def upto (n : Nat) : List Int := (List.range n).map fun (j : Nat) => (j : Int) + 1
theorem upto_length (n : Nat) : (upto n).length = n := by simp [upto]
theorem laws_markIntS_l0 (l : List Int) (hl : l.length ≤ 1000000000) (d : Nat) : ∀ (k i : Nat), i + d = l.length → d < k →
    laws_markIntS.l0 k (upto i ++ l.drop i) ((i : Int) + 1) (i : Int) = some ((l.length : Int) + 1, upto l.length) := by
  induction d with
  | zero =>
    intro k i hi hk
    obtain ⟨k, rfl⟩ : ∃ m, k = m + 1 := ⟨k - 1, by omega⟩
    obtain rfl : i = l.length := by omega
    simp only [laws_markIntS.l0]
    rw [List.drop_of_length_le (Nat.le_refl _), List.append_nil, upto_length, if_neg (by omega)]
  | succ d ih =>
    intro k i hi hk
    obtain ⟨k, rfl⟩ : ∃ m, k = m + 1 := ⟨k - 1, by omega⟩
    have hlt : i < l.length := by omega
    have hlen : (upto i ++ l.drop i).length = l.length := by
      rw [List.length_append, upto_length, List.length_drop]
      omega
    have e1 : wrap64 ((i : Int) + 1) = ((i + 1 : Nat) : Int) := by rw [w64 (by omega)]; rfl
    have e2 : wrap64 ((i : Int) + 1 + 1) = ((i + 1 : Nat) : Int) + 1 := by rw [w64 (by omega)]; rfl
    have es : (upto i ++ l.drop i).set (i : Int).toNat ((i : Int) + 1) = upto (i + 1) ++ l.drop (i + 1) := by
      rw [Int.toNat_natCast, List.set_append_right _ _ (by rw [upto_length]; exact Nat.le_refl _), upto_length, Nat.sub_self, List.drop_eq_getElem_cons hlt, List.set_cons_zero]
      unfold upto
      rw [List.range_succ, List.map_append, List.append_assoc]
      rfl
    simp only [laws_markIntS.l0]
    rw [hlen, if_pos (by omega), if_pos (by omega), e1, e2, es]
    exact ih k (i + 1) (by omega) (by omega)
theorem laws_markIntS_eq (l : List Int) (hl : l.length ≤ 1000000000) (k : Nat) (hk : l.length < k) : laws_markIntS.f k l 1 = some ((l.length : Int) + 1, upto l.length) := by
  unfold laws_markIntS.f
  exact laws_markIntS_l0 l hl l.length k 0 (by omega) hk

theorem laws_heldIntS_l0 (n : Nat) (hl : n ≤ 1000000000) (d : Nat) : ∀ (k i : Nat), i + d = n → d < k → laws_heldIntS.l0 k (upto n) ((i : Int) + 1) (i : Int) = some ((n : Int) + 1) := by
  induction d with
  | zero =>
    intro k i hi hk
    obtain ⟨k, rfl⟩ : ∃ m, k = m + 1 := ⟨k - 1, by omega⟩
    obtain rfl : i = n := by omega
    simp only [laws_heldIntS.l0]
    rw [upto_length, if_neg (by omega)]
  | succ d ih =>
    intro k i hi hk
    obtain ⟨k, rfl⟩ : ∃ m, k = m + 1 := ⟨k - 1, by omega⟩
    have hlt : i < n := by omega
    have e1 : wrap64 ((i : Int) + 1) = ((i + 1 : Nat) : Int) := by rw [w64 (by omega)]; rfl
    have e2 : wrap64 ((i : Int) + 1 + 1) = ((i + 1 : Nat) : Int) + 1 := by rw [w64 (by omega)]; rfl
    have er : rd (upto n) (i : Int) = (i : Int) + 1 := by simp [rd, upto, hlt]
    simp only [laws_heldIntS.l0]
    rw [upto_length, if_pos (by omega), if_pos (by omega), er, if_pos rfl, e1, e2]
    exact ih k (i + 1) (by omega) (by omega)
theorem laws_heldIntS_eq (n : Nat) (hl : n ≤ 1000000000) (k : Nat) (hk : n < k) : laws_heldIntS.f k (upto n) 1 = some ((n : Int) + 1) := by
  unfold laws_heldIntS.f
  exact laws_heldIntS_l0 n hl n k 0 (by omega) hk

theorem spec_l1In_eq (a b c : Int) : spec_l1In.f a b c = some (decide (b ≤ a ∧ a ≤ c)) := by
  unfold spec_l1In.f
  by_cases h : b ≤ a <;> simp [h]

theorem spec_trLap_eq (a : Int) : spec_trLap.f a = some (decide (2 ≤ a ∧ a ≤ 1000)) := by
  simp only [spec_trLap.f, spec_l1In_eq, Option.bind_some]

/-- a runner of a track -/
def isRun (a s v : Int) : Prop := (0 ≤ s ∧ s ≤ a - 1) ∧ (1 ≤ v ∧ v ≤ 100)
instance (a s v : Int) : Decidable (isRun a s v) := by unfold isRun; infer_instance
theorem spec_trRunner_eq (a s v : Int) : spec_trRunner.f a s v = some (decide ((2 ≤ a ∧ a ≤ 1000) ∧ isRun a s v)) := by
  simp only [spec_trRunner.f, spec_trLap_eq, spec_l1In_eq, Option.bind_some]
  by_cases h1 : 2 ≤ a ∧ a ≤ 1000
  · rw [w64 (x := a - 1) (by omega)]
    by_cases h2 : 0 ≤ s ∧ s ≤ a - 1
    · by_cases h3 : 1 ≤ v ∧ v ≤ 100
      · have : isRun a s v := ⟨h2, h3⟩
        simp [h1, h2, h3, this]
      · have : ¬ isRun a s v := fun z => h3 z.2
        simp [h1, h2, h3, this]
    · have : ¬ isRun a s v := fun z => h2 z.1
      simp [h1, h2, this]
  · simp [h1]

theorem spec_trTwo_eq (a s v t u : Int) : spec_trTwo.f a s v t u = some (decide (((2 ≤ a ∧ a ≤ 1000) ∧ isRun a s v) ∧ ((2 ≤ a ∧ a ≤ 1000) ∧ isRun a t u))) := by
  simp only [spec_trTwo.f, spec_trRunner_eq, Option.bind_some]
  by_cases h : (2 ≤ a ∧ a ≤ 1000) ∧ isRun a s v <;> simp [h]

theorem spec_trFar_eq (s v t : Int) (hs : 0 ≤ s ∧ s ≤ 999) (hv : 1 ≤ v ∧ v ≤ 100) (ht : 0 ≤ t ∧ t ≤ 1000000) : spec_trFar.f s v t = some (s + v * t) := by
  have p := bm (A := 100) (B := 1000000) (a := v) (b := t) (by omega) ht
  unfold spec_trFar.f
  rw [w64 (x := v * t) (by omega), w64 (x := s + v * t) (by omega)]
theorem far_range (s v t : Int) (hs : 0 ≤ s ∧ s ≤ 999) (hv : 1 ≤ v ∧ v ≤ 100) (ht : 0 ≤ t ∧ t ≤ 1000000) : 0 ≤ s + v * t ∧ s + v * t ≤ 100000999 := by
  have p := bm (A := 100) (B := 1000000) (a := v) (b := t) (by omega) ht
  omega

theorem spec_trPlace_eq (a s v t : Int) (ha : 2 ≤ a ∧ a ≤ 1000) (hs : 0 ≤ s ∧ s ≤ 999) (hv : 1 ≤ v ∧ v ≤ 100) (ht : 0 ≤ t ∧ t ≤ 1000000) : spec_trPlace.f a s v t = some ((s + v * t) % a) := by
  have p := far_range s v t hs hv ht
  unfold spec_trPlace.f
  rw [spec_trFar_eq s v t hs hv ht]
  simp only [Option.bind_some]
  rw [if_neg (by omega), Int.tmod_eq_emod_of_nonneg p.1]

theorem impl_farAt_eq (s v t : Int) (hs : 0 ≤ s ∧ s ≤ 999) (hv : 1 ≤ v ∧ v ≤ 100) (ht : 0 ≤ t ∧ t ≤ 1000000) : impl_farAt.f s v t = some (s + v * t) := by
  have p := bm (A := 100) (B := 1000000) (a := v) (b := t) (by omega) ht
  unfold impl_farAt.f
  rw [w64 (x := v * t) (by omega), w64 (x := s + v * t) (by omega)]

theorem impl_within_eq (a b c : Int) : impl_within.f a b c = some (decide (b ≤ a ∧ a ≤ c)) := by
  unfold impl_within.f
  by_cases h : b ≤ a <;> simp [h]

theorem impl_isRunner_eq (a s v : Int) (h1 : 2 ≤ a ∧ a ≤ 1000) : impl_isRunner.f a s v = some (decide (isRun a s v)) := by
  simp only [impl_isRunner.f, impl_within_eq, Option.bind_some]
  rw [w64 (x := a - 1) (by omega)]
  by_cases h2 : 0 ≤ s ∧ s ≤ a - 1
  · by_cases h3 : 1 ≤ v ∧ v ≤ 100
    · have : isRun a s v := ⟨h2, h3⟩
      simp [h2, h3, this]
    · have : ¬ isRun a s v := fun z => h3 z.2
      simp [h2, h3, this]
  · have : ¬ isRun a s v := fun z => h2 z.1
    simp [h2, this]

theorem noRun_eq (a : Int) (x : S37) (h1 : 2 ≤ a ∧ a ≤ 1000) : noRun a x = !(decide (isRun a x.f0 x.f1)) := by
  unfold noRun
  rw [impl_isRunner_eq a x.f0 x.f1 h1]
  rfl
/-- runners of a track -/
def areRun (a : Int) (l : List S37) : Prop := (2 ≤ a ∧ a ≤ 1000) ∧ (1 ≤ l.length ∧ l.length ≤ 6) ∧ ∀ x ∈ l, isRun a x.f0 x.f1
instance (a : Int) (l : List S37) : Decidable (areRun a l) := by unfold areRun; infer_instance
theorem impl_AreRunners_eq (a : Int) (l : List S37) : impl_AreRunners.f a l = some (decide (areRun a l)) := by
  unfold impl_AreRunners.f
  rw [impl_within_eq, impl_within_eq]
  simp only [Option.bind_some]
  by_cases h1 : 2 ≤ a ∧ a ≤ 1000
  · by_cases h2 : 1 ≤ (l.length : Int) ∧ (l.length : Int) ≤ 6
    · simp only [h1, h2, and_self, decide_true, if_true, Option.some.injEq]
      by_cases h3 : ∀ x ∈ l, isRun a x.f0 x.f1
      · have z : areRun a l := ⟨h1, by omega, h3⟩
        rw [decide_eq_true z, Bool.not_eq_true', List.any_eq_false]
        intro x hx
        rw [noRun_eq a x h1]
        simp [h3 x hx]
      · have z : ¬ areRun a l := fun y => h3 y.2.2
        rw [decide_eq_false z, Bool.not_eq_false', List.any_eq_true]
        have ⟨x, hx⟩ := Classical.not_forall.mp h3
        have ⟨hm, hn⟩ := Classical.not_imp.mp hx
        exact ⟨x, hm, by rw [noRun_eq a x h1]; simp [hn]⟩
    · have z : ¬ areRun a l := fun y => h2 (by have := y.2.1; omega)
      simp only [h1, h2, and_self, decide_true, decide_false, if_true, Bool.false_eq_true, if_false, decide_eq_false z]
  · have z : ¬ areRun a l := fun y => h1 y.1
    simp only [h1, decide_false, Bool.false_eq_true, if_false, decide_eq_false z]

theorem impl_onTrack_eq (a : Int) (l : List S37) : impl_onTrack.f a l = some (decide (areRun a l)) := by
  unfold impl_onTrack.f
  rw [impl_AreRunners_eq]
  rfl
theorem areRun_two (a s v t u : Int) : areRun a [⟨s, v⟩, ⟨t, u⟩] ↔ ((2 ≤ a ∧ a ≤ 1000) ∧ isRun a s v) ∧ ((2 ≤ a ∧ a ≤ 1000) ∧ isRun a t u) := by
  unfold areRun
  simp
  constructor
  · rintro ⟨h1, h2, h3⟩
    exact ⟨⟨h1, h2⟩, h1, h3⟩
  · rintro ⟨⟨h1, h2⟩, _, h3⟩
    exact ⟨h1, h2, h3⟩

def farP (x : S37) (t : Int) : Int := x.f0 + x.f1 * t
theorem spot_eq (a t : Int) (x : S37) (ha : 2 ≤ a ∧ a ≤ 1000) (ht : 0 ≤ t ∧ t ≤ 1000000) (hx : isRun a x.f0 x.f1) : spot a t x = farP x t % a := by
  unfold isRun at hx
  have f := far_range x.f0 x.f1 t (by omega) hx.2 ht
  have p := bm (A := 100) (B := 1000000) (a := x.f1) (b := t) (by omega) ht
  unfold spot farP
  rw [w64 (x := x.f1 * t) (by omega), w64 (x := x.f0 + x.f1 * t) (by omega), Int.tmod_eq_emod_of_nonneg f.1]
/-- all at one place -/
def tog (a : Int) (l : List S37) (t : Int) : Prop := ∀ x ∈ l, farP x t % a = farP (rd_T37 l 0) t % a
instance (a : Int) (l : List S37) (t : Int) : Decidable (tog a l t) := by unfold tog; infer_instance
theorem impl_areTogether_eq (a t : Int) (l : List S37) (h : areRun a l) (ht : 0 ≤ t ∧ t ≤ 1000000) : impl_areTogether.f a t l = some (decide (tog a l t)) := by
  obtain ⟨ha, hl, hv⟩ := h
  have h0 : rd_T37 l 0 ∈ l := by
    have e : rd_T37 l 0 = l[0] := by
      have : 0 < l.length := by omega
      simp [rd_T37, this]
    rw [e]
    exact List.getElem_mem _
  unfold impl_areTogether.f
  rw [if_neg (by omega), if_pos (by omega)]
  refine congrArg some ?_
  by_cases z : tog a l t
  · rw [decide_eq_true z, Bool.not_eq_true', List.any_eq_false]
    intro x hx
    rw [spot_eq a t x ha ht (hv x hx), spot_eq a t _ ha ht (hv _ h0), z x hx]
    simp
  · rw [decide_eq_false z, Bool.not_eq_false', List.any_eq_true]
    have ⟨x, hx⟩ := Classical.not_forall.mp z
    have ⟨hm, hn⟩ := Classical.not_imp.mp hx
    refine ⟨x, hm, ?_⟩
    rw [spot_eq a t x ha ht (hv x hm), spot_eq a t _ ha ht (hv _ h0)]
    simpa using hn

theorem compact_inc (d : Array Int) (hd : ∀ i j, i ≤ j → j < d.size → d[i]! ≤ d[j]!) : ∀ m, m ≤ d.size → (Go.Lib.compactUpTo d m).Pairwise (· < ·) ∧ ∀ x, x ∈ Go.Lib.compactUpTo d m ↔ ∃ j, j < m ∧ d[j]! = x := by
  intro m
  induction m with
  | zero =>
    intro _
    refine ⟨by simp [Go.Lib.compactUpTo], fun x => ?_⟩
    simp [Go.Lib.compactUpTo]
  | succ m ih =>
    intro hm
    obtain ⟨ih1, ih2⟩ := ih (by omega)
    rw [Go.Lib.compactUpTo_succ]
    by_cases hk : m = 0 ∨ d[m]! ≠ d[m - 1]!
    · have hk' : Go.Lib.keeps d m = true := decide_eq_true hk
      rw [if_pos hk']
      refine ⟨List.pairwise_append.mpr ⟨ih1, List.pairwise_singleton _ _, fun x hx y hy => ?_⟩, fun x => ?_⟩
      · rw [List.mem_singleton] at hy
        subst hy
        obtain ⟨j, hj, rfl⟩ := (ih2 x).mp hx
        have h1 := hd j (m - 1) (by omega) (by omega)
        have h2 := hd (m - 1) m (by omega) (by omega)
        have h3 : d[m]! ≠ d[m - 1]! := hk.resolve_left (by omega)
        omega
      · rw [List.mem_append, List.mem_singleton, ih2]
        constructor
        · rintro (⟨j, hj, e⟩ | e)
          · exact ⟨j, by omega, e⟩
          · exact ⟨m, by omega, e.symm⟩
        · rintro ⟨j, hj, e⟩
          by_cases h : j = m
          · subst h; exact .inr e.symm
          · exact .inl ⟨j, by omega, e⟩
    · have hk' : Go.Lib.keeps d m = false := decide_eq_false hk
      rw [hk', if_neg Bool.false_ne_true, List.append_nil]
      refine ⟨ih1, fun x => ?_⟩
      rw [ih2]
      constructor
      · rintro ⟨j, hj, e⟩
        exact ⟨j, by omega, e⟩
      · rintro ⟨j, hj, e⟩
        by_cases h : j = m
        · subst h
          have h4 : j ≠ 0 := fun z => hk (.inl z)
          have h5 : d[j]! = d[j - 1]! := by
            by_cases z : d[j]! = d[j - 1]!
            · exact z
            · exact absurd (.inr z) hk
          exact ⟨j - 1, by omega, by rw [← h5]; exact e⟩
        · exact ⟨j, by omega, e⟩
theorem inc_ext : ∀ (A B : List Int), A.Pairwise (· < ·) → B.Pairwise (· < ·) → (∀ x, x ∈ A ↔ x ∈ B) → A = B
  | [], [], _, _, _ => rfl
  | [], b :: B, _, _, h => by have := (h b).mpr List.mem_cons_self; cases this
  | a :: A, [], _, _, h => by have := (h a).mp List.mem_cons_self; cases this
  | a :: A, b :: B, hA, hB, h => by
    rw [List.pairwise_cons] at hA hB
    have e : a = b := by
      have h1 := (h a).mp List.mem_cons_self
      have h2 := (h b).mpr List.mem_cons_self
      rw [List.mem_cons] at h1 h2
      rcases h1 with h1 | h1
      · exact h1
      · rcases h2 with h2 | h2
        · exact h2.symm
        · have := hA.1 b h2
          have := hB.1 a h1
          omega
    subst e
    congr 1
    refine inc_ext A B hA.2 hB.2 (fun x => ?_)
    constructor
    · intro hx
      have := (h x).mp (List.mem_cons_of_mem _ hx)
      rw [List.mem_cons] at this
      rcases this with e | e
      · subst e; exact absurd (hA.1 x hx) (by omega)
      · exact e
    · intro hx
      have := (h x).mpr (List.mem_cons_of_mem _ hx)
      rw [List.mem_cons] at this
      rcases this with e | e
      · subst e; exact absurd (hB.1 x hx) (by omega)
      · exact e
theorem sorted_get (l : List Int) (h : l.Pairwise (· ≤ ·)) : ∀ i j, i ≤ j → j < l.toArray.size → l.toArray[i]! ≤ l.toArray[j]! := by
  intro i j hij hj
  have hj' : j < l.length := by simpa using hj
  have hi' : i < l.length := by omega
  rw [getElem!_pos _ i (by simpa using hi'), getElem!_pos _ j hj]
  simp only [List.getElem_toArray]
  rcases Nat.lt_or_eq_of_le hij with h1 | h1
  · exact List.pairwise_iff_getElem.mp h i j hi' hj' h1
  · subst h1; exact Int.le_refl _
theorem compact_sort (L B : List Int) (hB : B.Pairwise (· < ·)) (h : ∀ x, x ∈ L ↔ x ∈ B) : Go.Lib.compact (L.mergeSort fun x y => decide (x ≤ y)) = B := by
  obtain ⟨S, hS⟩ : ∃ S, S = L.mergeSort fun x y => decide (x ≤ y) := ⟨_, rfl⟩
  have hp : S.Pairwise (· ≤ ·) := by
    have := List.pairwise_mergeSort (le := fun x y : Int => decide (x ≤ y)) (by intro a b c; simp; omega) (by intro a b; simp; omega) L
    rw [← hS] at this
    exact this.imp (fun h => of_decide_eq_true h)
  have hm : ∀ x, x ∈ S ↔ x ∈ L := fun x => by rw [hS]; exact List.mem_mergeSort
  rw [← hS]
  obtain ⟨c1, c2⟩ := compact_inc S.toArray (sorted_get S hp) S.length (by simp)
  refine inc_ext _ _ c1 hB (fun x => ?_)
  rw [← h, ← hm]
  show x ∈ Go.Lib.compactUpTo S.toArray S.length ↔ _
  rw [c2]
  constructor
  · rintro ⟨j, hj, e⟩
    rw [getElem!_pos _ j (by simpa using hj)] at e
    simp only [List.getElem_toArray] at e
    rw [← e]
    exact List.getElem_mem hj
  · intro hx
    obtain ⟨j, hj, e⟩ := List.mem_iff_getElem.mp hx
    exact ⟨j, hj, by rw [getElem!_pos _ j (by simpa using hj)]; simpa using e⟩
/-- the places met at, in the order of the times -/
def pl (c : Int → Bool) (f : Int → Int) : Nat → Int → List Int
  | 0, _ => []
  | d + 1, t => (if c t = true then [f t] else []) ++ pl c f d (t + 1)
theorem pl_length (c : Int → Bool) (f : Int → Int) (d : Nat) : ∀ t, (pl c f d t).length ≤ d := by
  induction d with
  | zero => exact fun _ => Nat.le_refl 0
  | succ d ih =>
    intro t
    have := ih (t + 1)
    unfold pl
    rw [List.length_append]
    split <;> simp only [List.length_cons, List.length_nil] <;> omega
theorem mem_pl (c : Int → Bool) (f : Int → Int) (x : Int) (d : Nat) : ∀ t, x ∈ pl c f d t ↔ ∃ y, t ≤ y ∧ y < t + d ∧ c y = true ∧ f y = x := by
  induction d with
  | zero =>
    intro t
    constructor
    · intro h; cases h
    · rintro ⟨y, h1, h2, _⟩; omega
  | succ d ih =>
    intro t
    unfold pl
    rw [List.mem_append, ih]
    constructor
    · rintro (h | ⟨y, h1, h2, h3⟩)
      · by_cases z : c t = true
        · rw [if_pos z, List.mem_singleton] at h
          exact ⟨t, Int.le_refl t, by omega, z, h.symm⟩
        · rw [if_neg z] at h; cases h
      · exact ⟨y, by omega, by omega, h3⟩
    · rintro ⟨y, h1, h2, h3, h4⟩
      by_cases z : y = t
      · subst z
        rw [if_pos h3, List.mem_singleton]
        exact .inl h4.symm
      · exact .inr ⟨y, by omega, by omega, h3, h4⟩
/-- the marks: of each place whether it was met at -/
def mk (c : Int → Bool) (f : Int → Int) : Nat → Int → List Bool → List Bool
  | 0, _, M => M
  | d + 1, t, M => mk c f d (t + 1) (if c t = true then M.set (f t).toNat true else M)
theorem mk_length (c : Int → Bool) (f : Int → Int) (d : Nat) : ∀ t M, (mk c f d t M).length = M.length := by
  induction d with
  | zero => exact fun _ _ => rfl
  | succ d ih =>
    intro t M
    unfold mk
    rw [ih]
    split <;> simp
theorem mk_get (c : Int → Bool) (f : Int → Int) (j : Nat) (d : Nat) : ∀ (t : Int) (M : List Bool), j < M.length → (∀ y : Int, t ≤ y → y < t + d → 0 ≤ f y) → (((mk c f d t M).getD j false = true) ↔ (M.getD j false = true ∨ ∃ y, t ≤ y ∧ y < t + d ∧ c y = true ∧ f y = j)) := by
  induction d with
  | zero =>
    intro t M hj hf
    constructor
    · exact fun h => .inl h
    · rintro (h | ⟨y, h1, h2, _⟩)
      · exact h
      · omega
  | succ d ih =>
    intro t M hj hf
    unfold mk
    rw [ih _ _ (by split <;> simpa using hj) (fun y h1 h2 => hf y (by omega) (by omega))]
    have h0 := hf t (Int.le_refl t) (by omega)
    by_cases z : c t = true
    · rw [if_pos z]
      by_cases e : f t = j
      · have e2 : (f t).toNat = j := by omega
        constructor
        · exact fun _ => .inr ⟨t, Int.le_refl t, by omega, z, e⟩
        · intro _
          refine .inl ?_
          rw [e2, List.getD_eq_getElem?_getD, List.getElem?_set_self hj]
          rfl
      · have e2 : (f t).toNat ≠ j := by omega
        rw [List.getD_eq_getElem?_getD, List.getElem?_set_ne e2, ← List.getD_eq_getElem?_getD]
        constructor
        · rintro (h | ⟨y, h1, h2, h3⟩)
          · exact .inl h
          · exact .inr ⟨y, by omega, by omega, h3⟩
        · rintro (h | ⟨y, h1, h2, h3, h4⟩)
          · exact .inl h
          · by_cases q : y = t
            · subst q; exact absurd h4 e
            · exact .inr ⟨y, by omega, by omega, h3, h4⟩
    · rw [if_neg z]
      constructor
      · rintro (h | ⟨y, h1, h2, h3⟩)
        · exact .inl h
        · exact .inr ⟨y, by omega, by omega, h3⟩
      · rintro (h | ⟨y, h1, h2, h3, h4⟩)
        · exact .inl h
        · by_cases q : y = t
          · subst q; exact absurd h3 z
          · exact .inr ⟨y, by omega, by omega, h3, h4⟩
/-- the marked places from t on -/
def marked (M : List Bool) : Nat → Int → List Int
  | 0, _ => []
  | d + 1, t => (if rdOf false M t = true then [t] else []) ++ marked M d (t + 1)
theorem marked_length (M : List Bool) (d : Nat) : ∀ t, (marked M d t).length ≤ d := by
  induction d with
  | zero => exact fun _ => Nat.le_refl 0
  | succ d ih =>
    intro t
    have := ih (t + 1)
    unfold marked
    rw [List.length_append]
    split <;> simp only [List.length_cons, List.length_nil] <;> omega
theorem mem_marked (M : List Bool) (x : Int) (d : Nat) : ∀ t, x ∈ marked M d t ↔ t ≤ x ∧ x < t + d ∧ rdOf false M x = true := by
  induction d with
  | zero =>
    intro t
    constructor
    · intro h; cases h
    · rintro ⟨h1, h2, _⟩; omega
  | succ d ih =>
    intro t
    unfold marked
    rw [List.mem_append, ih]
    constructor
    · rintro (h | ⟨h1, h2, h3⟩)
      · by_cases z : rdOf false M t = true
        · rw [if_pos z, List.mem_singleton] at h
          subst h
          exact ⟨Int.le_refl x, by omega, z⟩
        · rw [if_neg z] at h; cases h
      · exact ⟨by omega, by omega, h3⟩
    · rintro ⟨h1, h2, h3⟩
      by_cases z : x = t
      · subst z
        rw [if_pos h3, List.mem_singleton]
        exact .inl rfl
      · exact .inr ⟨by omega, by omega, h3⟩
theorem marked_inc (M : List Bool) (d : Nat) : ∀ t, (marked M d t).Pairwise (· < ·) := by
  induction d with
  | zero => exact fun _ => List.Pairwise.nil
  | succ d ih =>
    intro t
    unfold marked
    refine List.pairwise_append.mpr ⟨by split <;> simp, ih _, fun x hx y hy => ?_⟩
    have h1 := (mem_marked M y d (t + 1)).mp hy
    by_cases z : rdOf false M t = true
    · rw [if_pos z, List.mem_singleton] at hx
      omega
    · rw [if_neg z] at hx; cases hx
theorem spec_places_l1 (M : List Bool) (hM : M.length ≤ 1000) (d : Nat) : ∀ (k : Nat) (x : Int) (acc : List Int), x + d = M.length → d < k → 0 ≤ x → acc.length ≤ x.toNat →
    spec_MeetingPlaces.l1 k acc M (M.length : Int) x = some (acc ++ marked M d x, true) := by
  induction d with
  | zero =>
    intro k x acc hd hk hx hacc
    obtain ⟨k, rfl⟩ : ∃ m, k = m + 1 := ⟨k - 1, by omega⟩
    simp only [spec_MeetingPlaces.l1]
    rw [if_neg (by omega)]
    simp [marked]
  | succ d ih =>
    intro k x acc hd hk hx hacc
    obtain ⟨k, rfl⟩ : ∃ m, k = m + 1 := ⟨k - 1, by omega⟩
    simp only [spec_MeetingPlaces.l1]
    rw [if_pos (by omega), if_pos hx, if_pos (by omega), w64 (x := x + 1) (by omega)]
    show _ = some (acc ++ ((if rdOf false M x = true then [x] else []) ++ marked M d (x + 1)), true)
    by_cases z : rdOf false M x = true
    · rw [if_pos z, if_pos (by omega), if_pos z, ih k (x + 1) _ (by omega) (by omega) (by omega) (by rw [List.length_append]; simp only [List.length_cons, List.length_nil]; omega), List.append_assoc]
    · rw [if_neg z, if_neg z, List.nil_append]
      exact ih k (x + 1) _ (by omega) (by omega) (by omega) (by omega)
theorem spec_places_l0 (a s v t u : Int) (ha : 2 ≤ a ∧ a ≤ 1000) (h1 : isRun a s v) (h2 : isRun a t u) (d : Nat) : ∀ (k : Nat) (x : Int) (M : List Bool), x + d = a → d + 1001 < k → 0 ≤ x → (M.length : Int) = a →
    spec_MeetingPlaces.l0 k a M x s v t u = some (marked (mk (fun x => decide ((s + v * x) % a = (t + u * x) % a)) (fun x => (s + v * x) % a) d x M) a.toNat 0, true) := by
  have g1 := h1
  have g2 := h2
  unfold isRun at g1 g2
  induction d with
  | zero =>
    intro k x M hd hk hx hM
    obtain ⟨k, rfl⟩ : ∃ m, k = m + 1 := ⟨k - 1, by omega⟩
    simp only [spec_MeetingPlaces.l0]
    rw [if_neg (by omega), spec_places_l1 M (by omega) a.toNat k 0 [] (by omega) (by omega) (Int.le_refl 0) (Nat.le_refl 0)]
    rfl
  | succ d ih =>
    intro k x M hd hk hx hM
    obtain ⟨k, rfl⟩ : ∃ m, k = m + 1 := ⟨k - 1, by omega⟩
    have p1 : 0 ≤ (s + v * x) % a := Int.emod_nonneg _ (by omega)
    have p2 : (s + v * x) % a < a := Int.emod_lt_of_pos _ (by omega)
    simp only [spec_MeetingPlaces.l0]
    rw [if_pos (by omega), spec_trPlace_eq a s v x ha (by omega) g1.2 (by omega)]
    simp only [Option.bind_some]
    rw [spec_trPlace_eq a t u x ha (by omega) g2.2 (by omega)]
    simp only [Option.bind_some]
    rw [w64 (x := x + 1) (by omega)]
    show _ = some (marked (mk _ _ d (x + 1) (if decide ((s + v * x) % a = (t + u * x) % a) = true then M.set ((s + v * x) % a).toNat true else M)) a.toNat 0, true)
    by_cases z : (s + v * x) % a = (t + u * x) % a
    · rw [if_pos z, if_pos p1, if_pos (by omega), decide_eq_true z, if_pos rfl, ih k (x + 1) _ (by omega) (by omega) (by omega) (by rw [List.length_set]; exact hM)]
    · rw [if_neg z, decide_eq_false z, if_neg Bool.false_ne_true]
      exact ih k (x + 1) _ (by omega) (by omega) (by omega) hM
theorem impl_places_l0 (a s v t u : Int) (ha : areRun a [⟨s, v⟩, ⟨t, u⟩]) (h0 : 2 ≤ a ∧ a ≤ 1000) (g1 : isRun a s v) (d : Nat) : ∀ (k : Nat) (x : Int) (acc : List Int), x + d = a → d < k → 0 ≤ x → acc.length ≤ x.toNat →
    impl_MeetingPlaces.l0 k a acc a x s v t u = some (Go.Lib.compact ((acc ++ pl (fun x => decide ((s + v * x) % a = (t + u * x) % a)) (fun x => (s + v * x) % a) d x).mergeSort fun x y => decide (x ≤ y)), true) := by
  unfold isRun at g1
  induction d with
  | zero =>
    intro k x acc hd hk hx hacc
    obtain ⟨k, rfl⟩ : ∃ m, k = m + 1 := ⟨k - 1, by omega⟩
    simp only [impl_MeetingPlaces.l0]
    rw [if_neg (by omega)]
    simp only [slices_Sort_int_int.f, slices_Compact_int_int.f]
    rw [if_pos (by omega)]
    simp only [Option.bind_some, pl, List.append_nil]
  | succ d ih =>
    intro k x acc hd hk hx hacc
    obtain ⟨k, rfl⟩ : ∃ m, k = m + 1 := ⟨k - 1, by omega⟩
    have p := far_range s v x (by omega) g1.2 (by omega)
    simp only [impl_MeetingPlaces.l0]
    rw [if_pos (by omega), impl_areTogether_eq a x _ ha (by omega)]
    simp only [Option.bind_some]
    rw [w64 (x := x + 1) (by omega)]
    have iff1 : tog a [⟨s, v⟩, ⟨t, u⟩] x ↔ (s + v * x) % a = (t + u * x) % a := by
      unfold tog farP
      simp [rd_T37]
      exact eq_comm
    show _ = some (Go.Lib.compact ((acc ++ ((if decide ((s + v * x) % a = (t + u * x) % a) = true then [(s + v * x) % a] else []) ++ pl _ _ d (x + 1))).mergeSort fun x y => decide (x ≤ y)), true)
    by_cases z : (s + v * x) % a = (t + u * x) % a
    · rw [decide_eq_true (iff1.mpr z), if_pos rfl, impl_farAt_eq s v x (by omega) g1.2 (by omega)]
      simp only [Option.bind_some]
      rw [if_neg (by omega), if_pos (by omega), decide_eq_true z, if_pos rfl, Int.tmod_eq_emod_of_nonneg p.1, ih k (x + 1) _ (by omega) (by omega) (by omega) (by rw [List.length_append]; simp only [List.length_cons, List.length_nil]; omega), List.append_assoc]
    · rw [decide_eq_false (fun y => z (iff1.mp y)), if_neg Bool.false_ne_true, decide_eq_false z, if_neg Bool.false_ne_true, List.nil_append]
      exact ih k (x + 1) _ (by omega) (by omega) (by omega) (by omega)
theorem places_alike (a s v t u : Int) (ha : 2 ≤ a ∧ a ≤ 1000) :
    Go.Lib.compact ((pl (fun x => decide ((s + v * x) % a = (t + u * x) % a)) (fun x => (s + v * x) % a) a.toNat 0).mergeSort fun x y => decide (x ≤ y)) = marked (mk (fun x => decide ((s + v * x) % a = (t + u * x) % a)) (fun x => (s + v * x) % a) a.toNat 0 (List.replicate a.toNat false)) a.toNat 0 := by
  refine compact_sort _ _ (marked_inc _ _ _) (fun x => ?_)
  rw [mem_pl, mem_marked]
  have p1 : ∀ y, 0 ≤ (s + v * y) % a := fun y => Int.emod_nonneg _ (by omega)
  have p2 : ∀ y, (s + v * y) % a < a := fun y => Int.emod_lt_of_pos _ (by omega)
  have key : ∀ j : Nat, j < a.toNat → ((rdOf false (mk (fun x => decide ((s + v * x) % a = (t + u * x) % a)) (fun x => (s + v * x) % a) a.toNat 0 (List.replicate a.toNat false)) (j : Int) = true) ↔ ∃ y, 0 ≤ y ∧ y < 0 + (a.toNat : Int) ∧ decide ((s + v * y) % a = (t + u * y) % a) = true ∧ (s + v * y) % a = j) := by
    intro j hj
    unfold rdOf
    rw [Int.toNat_natCast, mk_get _ _ j a.toNat 0 _ (by rw [List.length_replicate]; exact hj) (fun y _ _ => p1 y)]
    constructor
    · rintro (h | h)
      · rw [List.getD_eq_getElem?_getD, List.getElem?_replicate] at h
        rw [if_pos hj] at h
        cases h
      · exact h
    · exact fun h => .inr h
  constructor
  · rintro ⟨y, h1, h2, h3, h4⟩
    have q1 := p1 y
    have q2 := p2 y
    obtain ⟨j, rfl⟩ := Int.eq_ofNat_of_zero_le (show 0 ≤ x by rw [← h4]; exact q1)
    exact ⟨by omega, by rw [← h4]; omega, (key j (by have := h4 ▸ q2; omega)).mpr ⟨y, h1, h2, h3, h4⟩⟩
  · rintro ⟨h1, h2, h3⟩
    obtain ⟨j, rfl⟩ := Int.eq_ofNat_of_zero_le h1
    exact (key j (by omega)).mp h3
theorem finish (k : Nat) (a s v t u : Int) (W : List Int) (b : Bool) (hW : W.length ≤ 20000) (hk : 1048577 < k) (hs : spec_MeetingPlaces.f (k + 2) a s v t u = some (W, b)) (hi : ∀ j, k ≤ j → impl_MeetingPlaces.f j a s v t u = some (W, b)) :
    laws_FnExactMeetingPlaces.f (k + 2) a s v t u = some true := by
  have h6 : ¬ ((W.length : Int) + 1) < 0 := by omega
  simp only [laws_FnExactMeetingPlaces.f, laws_toRunner.f, hs, hi (k + 2) (by omega), laws_eqIntS_eq W (by omega) (k + 2) (by omega), Option.bind_some, if_true, bne_self_eq_false]
  simp only [laws_FnExactMeetingPlaces.j0, laws_toRunner.f, Bool.false_eq_true, if_false, laws_markIntS_eq W (by omega) (k + 1) (by omega), laws_heldIntS_eq W.length (by omega) (k + 1) (by omega), h6, hi (k + 1) (by omega), laws_eqIntS_eq W (by omega) (k + 1) (by omega), Option.bind_some, if_true, bne_self_eq_false]
  simp only [laws_FnExactMeetingPlaces.j1, Bool.false_eq_true, if_false, laws_heldIntS_eq W.length (by omega) k (by omega), h6, Option.bind_some, if_true]
theorem holds (a s v t u : Int) (_ : (Lit.int .i64 a).wf = true) (_ : (Lit.int .i64 s).wf = true) (_ : (Lit.int .i64 v).wf = true) (_ : (Lit.int .i64 t).wf = true) (_ : (Lit.int .i64 u).wf = true) :
    ∃ k, laws_FnExactMeetingPlaces.f k a s v t u = some true := by
  obtain ⟨k, hk⟩ : ∃ k : Nat, 1048579 < k := ⟨1048580, by decide⟩
  refine ⟨k + 2, ?_⟩
  have e1 := spec_trTwo_eq a s v t u
  have e2 := impl_onTrack_eq a [⟨s, v⟩, ⟨t, u⟩]
  by_cases h : ((2 ≤ a ∧ a ≤ 1000) ∧ isRun a s v) ∧ ((2 ≤ a ∧ a ≤ 1000) ∧ isRun a t u)
  · have h' := (areRun_two a s v t u).mpr h
    rw [decide_eq_true h] at e1
    rw [decide_eq_true h'] at e2
    have ha := h.1.1
    have hl := marked_length (mk (fun x => decide ((s + v * x) % a = (t + u * x) % a)) (fun x => (s + v * x) % a) a.toNat 0 (List.replicate a.toNat false)) a.toNat 0
    refine finish k a s v t u (marked (mk (fun x => decide ((s + v * x) % a = (t + u * x) % a)) (fun x => (s + v * x) % a) a.toNat 0 (List.replicate a.toNat false)) a.toNat 0) true (by omega) (by omega) ?_ ?_
    · simp only [spec_MeetingPlaces.f, e1, Option.bind_some, if_true]
      rw [if_pos (by omega), if_pos (by omega)]
      exact spec_places_l0 a s v t u ha h.1.2 h.2.2 a.toNat (k + 2) 0 _ (by omega) (by omega) (Int.le_refl 0) (by rw [List.length_replicate]; omega)
    · intro j hj
      simp only [impl_MeetingPlaces.f, e2, Option.bind_some, if_true]
      rw [impl_places_l0 a s v t u h' ha h.1.2 a.toNat j 0 [] (by omega) (by omega) (Int.le_refl 0) (Nat.le_refl 0), List.nil_append, places_alike a s v t u ha]
  · rw [decide_eq_false h] at e1
    rw [decide_eq_false (fun z => h ((areRun_two a s v t u).mp z))] at e2
    refine finish k a s v t u [] false (by simp) (by omega) ?_ ?_
    · simp only [spec_MeetingPlaces.f, e1, Option.bind_some, Bool.false_eq_true, if_false]
    · intro j hj
      simp only [impl_MeetingPlaces.f, e2, Option.bind_some, Bool.false_eq_true, if_false]

end Go.Proofs.Ytgpepcjbndhdjaa.QFnExactMeetingPlaces
