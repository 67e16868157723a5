/- The law FnRunnersMeet in plain Lean, over the printed functions: it returns true for every input (no condition). -/
import Derived.Test.YtgobnhoblofglaaPFnRunnersMeetx19
import Derived.OpenShut
namespace Go.Proofs.Ytgobnhoblofglaa.QFnRunnersMeet
open Go.RowKit Go.ChangeShapes Go.WideShapes Go.Proofs.Ytgobnhoblofglaa.PFnRunnersMeet Go.Proofs.YtgobnhoblofglaaW.PrintWords Go.Proofs.YtgobnhoblofglaaW.PrintLast Go.Proofs.YtgobnhoblofglaaW.PrintMore
set_option linter.unusedVariables false
set_option linter.unusedSimpArgs false
theorem w64 {x : Int} (h : -9223372036854775808 ≤ x ∧ x ≤ 9223372036854775807) : wrap64 x = x := by unfold wrap64; omega
theorem bm {a b A B : Int} (ha : 0 ≤ a ∧ a ≤ A) (hb : 0 ≤ b ∧ b ≤ B) : 0 ≤ a * b ∧ a * b ≤ A * B :=
 ⟨Int.mul_nonneg ha.1 hb.1, Int.mul_le_mul ha.2 hb.2 hb.1 (Int.le_trans ha.1 ha.2)⟩
theorem gcd_step (a b : Int) (ha : 0 ≤ a) (hb : 0 ≤ b) : Int.gcd b (a.tmod b) = Int.gcd a b := by
 obtain ⟨m, rfl⟩ := Int.eq_ofNat_of_zero_le ha
 obtain ⟨n, rfl⟩ := Int.eq_ofNat_of_zero_le hb
 rw [← Int.ofNat_tmod]
 show Nat.gcd n (m % n) = Nat.gcd m n
 rw [Nat.gcd_comm n, ← Nat.gcd_rec, Nat.gcd_comm]
theorem bms {a b A B : Int} (ha : -A ≤ a ∧ a ≤ A) (hb : 0 ≤ b ∧ b ≤ B) : -(A * B) ≤ a * b ∧ a * b ≤ A * B := by
 have hA : 0 ≤ A := by omega
 rcases Int.le_total 0 a with h | h
 ·
  have := bm ⟨h, ha.2⟩ hb
  have := Int.mul_nonneg hA (Int.le_trans hb.1 hb.2)
  omega
 ·
  have := bm (a := -a) (A := A) ⟨by omega, by omega⟩ hb
  have e : -a * b = -(a * b) := Int.neg_mul a b
  omega
theorem spec_l1In_eq (a b c : Int) : spec_l1In.f a b c = some (decide (b ≤ a ∧ a ≤ c)) := by
 unfold spec_l1In.f
 by_cases h : b ≤ a <;> simp [h]
theorem spec_trLap_eq (a : Int) : spec_trLap.f a = some (decide (2 ≤ a ∧ a ≤ 1000)) := by
 simp only [spec_trLap.f, spec_l1In_eq, Option.bind_some]
/-- a runner of a track -/
def isRun (a s v : Int) : Prop := (0 ≤ s ∧ s ≤ a - 1) ∧ (1 ≤ v ∧ v ≤ 100)
instance (a s v : Int) : Decidable (isRun a s v) := by unfold isRun; infer_instance
theorem spec_trRunner_eq (a s v : Int) : spec_trRunner.f a s v = some (decide ((2 ≤ a ∧ a ≤ 1000) ∧ isRun a s v)) := by
 simp only [spec_trRunner.f, spec_trLap_eq, spec_l1In_eq, Option.bind_some]
 by_cases h1 : 2 ≤ a ∧ a ≤ 1000
 ·
  rw [w64 (x := a - 1) (by omega)]
  by_cases h2 : 0 ≤ s ∧ s ≤ a - 1
  ·
   by_cases h3 : 1 ≤ v ∧ v ≤ 100
   ·
    have : isRun a s v := ⟨h2, h3⟩
    simp [h1, h2, h3, this]
   ·
    have : ¬ isRun a s v := fun z => h3 z.2
    simp [h1, h2, h3, this]
  ·
   have : ¬ isRun a s v := fun z => h2 z.1
   simp [h1, h2, this]
 ·
  simp [h1]
theorem spec_trTwo_eq (a s v t u : Int) : spec_trTwo.f a s v t u = some (decide (((2 ≤ a ∧ a ≤ 1000) ∧ isRun a s v) ∧ ((2 ≤ a ∧ a ≤ 1000) ∧ isRun a t u))) := by
 simp only [spec_trTwo.f, spec_trRunner_eq, Option.bind_some]
 by_cases h : (2 ≤ a ∧ a ≤ 1000) ∧ isRun a s v <;> simp [h]
theorem spec_trFar_eq (s v t : Int) (hs : 0 ≤ s ∧ s ≤ 999) (hv : 1 ≤ v ∧ v ≤ 100) (ht : 0 ≤ t ∧ t ≤ 1000000) : spec_trFar.f s v t = some (s + v * t) := by
 have p := bm (A := 100) (B := 1000000) (a := v) (b := t) (by omega) ht
 unfold spec_trFar.f
 rw [w64 (x := v * t) (by omega), w64 (x := s + v * t) (by omega)]
theorem far_range (s v t : Int) (hs : 0 ≤ s ∧ s ≤ 999) (hv : 1 ≤ v ∧ v ≤ 100) (ht : 0 ≤ t ∧ t ≤ 1000000) : 0 ≤ s + v * t ∧ s + v * t ≤ 100000999 := by
 have p := bm (A := 100) (B := 1000000) (a := v) (b := t) (by omega) ht
 omega
theorem spec_trPlace_eq (a s v t : Int) (ha : 2 ≤ a ∧ a ≤ 1000) (hs : 0 ≤ s ∧ s ≤ 999) (hv : 1 ≤ v ∧ v ≤ 100) (ht : 0 ≤ t ∧ t ≤ 1000000) : spec_trPlace.f a s v t = some ((s + v * t) % a) := by
 have p := far_range s v t hs hv ht
 unfold spec_trPlace.f
 rw [spec_trFar_eq s v t hs hv ht]
 simp only [Option.bind_some]
 rw [if_neg (by omega), Int.tmod_eq_emod_of_nonneg p.1]
theorem spec_trTime_eq (a : Int) : spec_trTime.f a = some (decide (0 ≤ a ∧ a ≤ 1000000)) := by
 simp only [spec_trTime.f, spec_l1In_eq, Option.bind_some]
def two (a s v t u : Int) : Prop := ((2 ≤ a ∧ a ≤ 1000) ∧ isRun a s v) ∧ ((2 ≤ a ∧ a ≤ 1000) ∧ isRun a t u)
instance (a s v t u : Int) : Decidable (two a s v t u) := by unfold two; infer_instance
theorem trTwo_two (a s v t u : Int) : spec_trTwo.f a s v t u = some (decide (two a s v t u)) := spec_trTwo_eq a s v t u
theorem far_two' {a s v t u n : Int} (h : two a s v t u) (hn : 0 ≤ n ∧ n ≤ 1000000) : 0 ≤ s + v * n ∧ s + v * n ≤ 100000999 ∧ 0 ≤ t + u * n ∧ t + u * n ≤ 100000999 := by
 obtain ⟨⟨ha, h1⟩, _, h2⟩ := h
 unfold isRun at h1 h2
 have p1 := far_range s v n (by omega) h1.2 hn
 have p2 := far_range t u n (by omega) h2.2 hn
 exact ⟨p1.1, p1.2, p2.1, p2.2⟩
theorem spec_LeadBetween_eq (a s v t u n : Int) (k : Nat) (hk : 1 < k) : spec_LeadBetween.f k a s v t u n = some (if two a s v t u ∧ (0 ≤ n ∧ n ≤ 1000000) then (s + v * n - (t + u * n), true) else (0, false)) := by
 obtain ⟨k, rfl⟩ : ∃ m, k = m + 1 := ⟨k - 1, by omega⟩
 unfold spec_LeadBetween.f
 rw [trTwo_two]
 by_cases h : two a s v t u
 ·
  rw [decide_eq_true h, spec_trTime_eq]
  by_cases hn : 0 ≤ n ∧ n ≤ 1000000
  ·
   have p := far_two' h hn
   have g := h
   obtain ⟨⟨ha, h1⟩, _, h2⟩ := g
   unfold isRun at h1 h2
   rw [decide_eq_true hn, if_pos ⟨h, hn⟩]
   simp only [Option.bind_some, if_true, spec_LeadBetween.j0, Bool.not_true, Bool.false_eq_true, if_false]
   rw [spec_trFar_eq s v n (by omega) h1.2 hn]
   simp only [Option.bind_some]
   rw [spec_trFar_eq t u n (by omega) h2.2 hn]
   simp only [Option.bind_some]
   rw [w64 (by omega)]
  ·
   rw [decide_eq_false hn, if_neg (fun z => hn z.2)]
   simp only [Option.bind_some, if_true, spec_LeadBetween.j0, Bool.not_false]
 ·
  rw [decide_eq_false h, if_neg (fun z => h z.1)]
  simp only [Option.bind_some, Bool.false_eq_true, if_false, spec_LeadBetween.j0, if_true]
theorem spec_trList_l0 (a : Int) (l : List S45) (hl : l.length ≤ 1000000000) (d : Nat) : ∀ (k i : Nat), i + d = l.length → d < k →
  spec_trList.l0 k a l (l.length : Int) (i : Int) = some (decide (∀ x ∈ l.drop i, (2 ≤ a ∧ a ≤ 1000) ∧ isRun a x.f0 x.f1)) := by
 induction d with
 | zero =>
  intro k i hi' hk
  obtain ⟨k, rfl⟩ : ∃ m, k = m + 1 := ⟨k - 1, by omega⟩
  simp only [spec_trList.l0]
  rw [if_neg (by omega), List.drop_of_length_le (by omega)]
  simp
 | succ d ih =>
  intro k i hi' hk
  obtain ⟨k, rfl⟩ : ∃ m, k = m + 1 := ⟨k - 1, by omega⟩
  have hlt : i < l.length := by omega
  have er : rd_T45 l (i : Int) = l[i] := by simp [rd_T45, hlt]
  simp only [spec_trList.l0]
  rw [if_pos (by omega), if_pos (by omega), if_pos (by omega), er, spec_trRunner_eq, List.drop_eq_getElem_cons hlt]
  simp only [Option.bind_some]
  have e1 : wrap64 ((i : Int) + 1) = ((i + 1 : Nat) : Int) := by rw [w64 (by omega)]; rfl
  rw [e1, ih k (i + 1) (by omega) (by omega)]
  have e2 : (∀ x ∈ l[i] :: l.drop (i + 1), (2 ≤ a ∧ a ≤ 1000) ∧ isRun a x.f0 x.f1) ↔ (((2 ≤ a ∧ a ≤ 1000) ∧ isRun a l[i].f0 l[i].f1) ∧ ∀ x ∈ l.drop (i + 1), (2 ≤ a ∧ a ≤ 1000) ∧ isRun a x.f0 x.f1) := List.forall_mem_cons
  by_cases h : (2 ≤ a ∧ a ≤ 1000) ∧ isRun a l[i].f0 l[i].f1
  ·
   rw [decide_eq_true h, if_pos rfl]
   exact congrArg some (decide_eq_decide.mpr (e2.trans ⟨fun z => z.2, fun z => ⟨h, z⟩⟩).symm)
  ·
   rw [decide_eq_false h, if_neg Bool.false_ne_true]
   exact congrArg some (decide_eq_false (fun z => h (e2.1 z).1)).symm
theorem spec_trList_iff (a : Int) (l : List S45) (hl : l.length ≤ 1000000000) (k : Nat) (hk : l.length < k) : ∃ b, spec_trList.f k a l = some b ∧ (b = true ↔ ((1 ≤ l.length ∧ l.length ≤ 6) ∧ ∀ x ∈ l, (2 ≤ a ∧ a ≤ 1000) ∧ isRun a x.f0 x.f1)) := by
 unfold spec_trList.f
 rw [spec_l1In_eq]
 simp only [Option.bind_some]
 by_cases h : 1 ≤ (l.length : Int) ∧ (l.length : Int) ≤ 6
 ·
  have := spec_trList_l0 a l hl l.length k 0 (by omega) hk
  refine ⟨_, by rw [decide_eq_true h, if_pos rfl]; exact this, ?_⟩
  rw [decide_eq_true_eq, List.drop_zero]
  exact ⟨fun z => ⟨by omega, z⟩, fun z => z.2⟩
 ·
  refine ⟨false, by rw [decide_eq_false h]; rfl, ?_⟩
  constructor
  ·
   intro z
   cases z
  ·
   intro z
   exact absurd (by have := z.1; omega) h
theorem spec_trCommon_l0 (n : Nat) : ∀ (k : Nat) (a b : Int), 0 ≤ a → 0 ≤ b → b ≤ n → n < k → spec_trCommon.l0 k a b = some (Int.gcd a b : Int) := by
 induction n with
 | zero =>
  intro k a b ha hb hn hk
  obtain ⟨k, rfl⟩ : ∃ m, k = m + 1 := ⟨k - 1, by omega⟩
  obtain rfl : b = 0 := by omega
  simp only [spec_trCommon.l0]
  rw [if_neg (by omega), Int.gcd_zero_right]
  congr 1
  omega
 | succ n ih =>
  intro k a b ha hb hn hk
  obtain ⟨k, rfl⟩ : ∃ m, k = m + 1 := ⟨k - 1, by omega⟩
  simp only [spec_trCommon.l0]
  by_cases h : b > 0
  ·
   rw [if_pos h, if_neg (by omega)]
   have h1 : 0 ≤ a.tmod b := Int.tmod_nonneg b ha
   have h2 : a.tmod b < b := Int.tmod_lt_of_pos a h
   rw [ih k b (a.tmod b) hb h1 (by omega) (by omega), gcd_step a b ha hb]
  ·
   obtain rfl : b = 0 := by omega
   rw [if_neg h, Int.gcd_zero_right]
   congr 1
   omega
theorem spec_trCommon_eq (k : Nat) (a b : Int) (ha : 0 ≤ a) (hb : 0 ≤ b) (hk : b < k) : spec_trCommon.f k a b = some (Int.gcd a b : Int) := by
 unfold spec_trCommon.f
 exact spec_trCommon_l0 b.toNat k a b ha hb (by omega) (by omega)
def gf (c : Int) : List S45 → Int
 | [] => c
 | x :: r => gf (Int.gcd c x.f1 : Int) r
theorem gcd_range (c v : Int) (hc : 0 < c) : 0 < (Int.gcd c v : Int) ∧ (Int.gcd c v : Int) ≤ c := by
 have h1 := Int.gcd_pos_of_ne_zero_left v (show c ≠ 0 by omega)
 exact ⟨by omega, Int.le_of_dvd hc (Int.gcd_dvd_left c v)⟩
theorem gf_range (l : List S45) : ∀ c : Int, 0 < c → 0 < gf c l ∧ gf c l ≤ c := by
 induction l with
 | nil => exact fun c hc => ⟨hc, Int.le_refl c⟩
 | cons x r ih =>
  intro c hc
  have g := gcd_range c x.f1 hc
  have := ih _ g.1
  exact ⟨this.1, Int.le_trans this.2 g.2⟩
theorem spec_trPeriod_l0 (a : Int) (ha : 2 ≤ a ∧ a ≤ 1000) (l : List S45) (hl : l.length ≤ 6) (hv : ∀ x ∈ l, 1 ≤ x.f1 ∧ x.f1 ≤ 100) (d : Nat) : ∀ (k i : Nat) (c : Int), i + d = l.length → d + 200 < k → 0 < c → c ≤ 1000 →
  spec_trPeriod.l0 k a c l (l.length : Int) (i : Int) = some (a / gf c (l.drop i)) := by
 induction d with
 | zero =>
  intro k i c hi hk h0 h1
  obtain ⟨k, rfl⟩ : ∃ m, k = m + 1 := ⟨k - 1, by omega⟩
  have q0 := Int.ediv_nonneg (show 0 ≤ a by omega) (show 0 ≤ c by omega)
  have q1 := Int.ediv_le_self c (show 0 ≤ a by omega)
  simp only [spec_trPeriod.l0]
  rw [if_neg (by omega), if_neg (by omega), List.drop_of_length_le (by omega), Int.tdiv_eq_ediv_of_nonneg (by omega), w64 (by omega)]
  rfl
 | succ d ih =>
  intro k i c hi hk h0 h1
  obtain ⟨k, rfl⟩ : ∃ m, k = m + 1 := ⟨k - 1, by omega⟩
  have hlt : i < l.length := by omega
  have er : rd_T45 l (i : Int) = l[i] := by simp [rd_T45, hlt]
  have e1 : wrap64 ((i : Int) + 1) = ((i + 1 : Nat) : Int) := by rw [w64 (by omega)]; rfl
  have hx := hv l[i] (List.getElem_mem hlt)
  have g := gcd_range c l[i].f1 h0
  simp only [spec_trPeriod.l0]
  rw [if_pos (by omega), if_pos (by omega), if_pos (by omega), er, spec_trCommon_eq k c l[i].f1 (by omega) (by omega) (by omega), List.drop_eq_getElem_cons hlt]
  simp only [Option.bind_some]
  rw [e1, ih k (i + 1) _ (by omega) (by omega) g.1 (by omega)]
  rfl
theorem spec_trPeriod_eq (a : Int) (ha : 2 ≤ a ∧ a ≤ 1000) (l : List S45) (hl : l.length ≤ 6) (hv : ∀ x ∈ l, 1 ≤ x.f1 ∧ x.f1 ≤ 100) (k : Nat) (hk : 300 < k) : spec_trPeriod.f k a l = some (a / gf a l) := by
 unfold spec_trPeriod.f
 have := spec_trPeriod_l0 a ha l hl hv l.length k 0 a (by omega) (by omega) (by omega) (by omega)
 simpa using this
theorem spec_l1Most_eq (a b : Int) : spec_l1Most.f a b = some (if a > b then a else b) := by
 unfold spec_l1Most.f
 split <;> rfl
theorem spec_l1Least_eq (a b : Int) : spec_l1Least.f a b = some (if a < b then a else b) := by
 unfold spec_l1Least.f
 split <;> rfl
theorem impl_within_eq (a b c : Int) : impl_within.f a b c = some (decide (b ≤ a ∧ a ≤ c)) := by
 unfold impl_within.f
 by_cases h : b ≤ a <;> simp [h]
theorem impl_isRunner_eq (a s v : Int) (h1 : 2 ≤ a ∧ a ≤ 1000) : impl_isRunner.f a s v = some (decide (isRun a s v)) := by
 simp only [impl_isRunner.f, impl_within_eq, Option.bind_some]
 rw [w64 (x := a - 1) (by omega)]
 by_cases h2 : 0 ≤ s ∧ s ≤ a - 1
 ·
  by_cases h3 : 1 ≤ v ∧ v ≤ 100
  ·
   have : isRun a s v := ⟨h2, h3⟩
   simp [h2, h3, this]
  ·
   have : ¬ isRun a s v := fun z => h3 z.2
   simp [h2, h3, this]
 ·
  have : ¬ isRun a s v := fun z => h2 z.1
  simp [h2, this]
theorem noRun_eq (a : Int) (x : S45) (h1 : 2 ≤ a ∧ a ≤ 1000) : noRun a x = !(decide (isRun a x.f0 x.f1)) := by
 unfold noRun
 rw [impl_isRunner_eq a x.f0 x.f1 h1]
 rfl
/-- runners of a track -/
def areRun (a : Int) (l : List S45) : Prop := (2 ≤ a ∧ a ≤ 1000) ∧ (1 ≤ l.length ∧ l.length ≤ 6) ∧ ∀ x ∈ l, isRun a x.f0 x.f1
instance (a : Int) (l : List S45) : Decidable (areRun a l) := by unfold areRun; infer_instance
theorem impl_AreRunners_eq (a : Int) (l : List S45) : impl_AreRunners.f a l = some (decide (areRun a l)) := by
 unfold impl_AreRunners.f
 rw [impl_within_eq, impl_within_eq]
 simp only [Option.bind_some]
 by_cases h1 : 2 ≤ a ∧ a ≤ 1000
 ·
  by_cases h2 : 1 ≤ (l.length : Int) ∧ (l.length : Int) ≤ 6
  ·
   simp only [h1, h2, and_self, decide_true, if_true, Option.some.injEq]
   by_cases h3 : ∀ x ∈ l, isRun a x.f0 x.f1
   ·
    have z : areRun a l := ⟨h1, by omega, h3⟩
    rw [decide_eq_true z, Bool.not_eq_true', List.any_eq_false]
    intro x hx
    rw [noRun_eq a x h1]
    simp [h3 x hx]
   ·
    have z : ¬ areRun a l := fun y => h3 y.2.2
    rw [decide_eq_false z, Bool.not_eq_false', List.any_eq_true]
    have ⟨x, hx⟩ := Classical.not_forall.mp h3
    have ⟨hm, hn⟩ := Classical.not_imp.mp hx
    exact ⟨x, hm, by rw [noRun_eq a x h1]; simp [hn]⟩
  ·
   have z : ¬ areRun a l := fun y => h2 (by have := y.2.1; omega)
   simp only [h1, h2, and_self, decide_true, decide_false, if_true, Bool.false_eq_true, if_false, decide_eq_false z]
 ·
  have z : ¬ areRun a l := fun y => h1 y.1
  simp only [h1, decide_false, Bool.false_eq_true, if_false, decide_eq_false z]
theorem impl_onTrack_eq (a : Int) (l : List S45) : impl_onTrack.f a l = some (decide (areRun a l)) := by
 unfold impl_onTrack.f
 rw [impl_AreRunners_eq]
 rfl
theorem areRun_two (a s v t u : Int) : areRun a [⟨s, v⟩, ⟨t, u⟩] ↔ ((2 ≤ a ∧ a ≤ 1000) ∧ isRun a s v) ∧ ((2 ≤ a ∧ a ≤ 1000) ∧ isRun a t u) := by
 unfold areRun
 simp
 constructor
 ·
  rintro ⟨h1, h2, h3⟩
  exact ⟨⟨h1, h2⟩, h1, h3⟩
 ·
  rintro ⟨⟨h1, h2⟩, _, h3⟩
  exact ⟨h1, h2, h3⟩
theorem impl_farAt_eq (s v t : Int) (hs : 0 ≤ s ∧ s ≤ 999) (hv : 1 ≤ v ∧ v ≤ 100) (ht : 0 ≤ t ∧ t ≤ 1000000) : impl_farAt.f s v t = some (s + v * t) := by
 have p := bm (A := 100) (B := 1000000) (a := v) (b := t) (by omega) ht
 unfold impl_farAt.f
 rw [w64 (x := v * t) (by omega), w64 (x := s + v * t) (by omega)]
def farP (x : S45) (t : Int) : Int := x.f0 + x.f1 * t
theorem spot_eq (a t : Int) (x : S45) (ha : 2 ≤ a ∧ a ≤ 1000) (ht : 0 ≤ t ∧ t ≤ 1000000) (hx : isRun a x.f0 x.f1) : spot a t x = farP x t % a := by
 unfold isRun at hx
 have f := far_range x.f0 x.f1 t (by omega) hx.2 ht
 have p := bm (A := 100) (B := 1000000) (a := x.f1) (b := t) (by omega) ht
 unfold spot farP
 rw [w64 (x := x.f1 * t) (by omega), w64 (x := x.f0 + x.f1 * t) (by omega), Int.tmod_eq_emod_of_nonneg f.1]
/-- all at one place -/
def tog (a : Int) (l : List S45) (t : Int) : Prop := ∀ x ∈ l, farP x t % a = farP (rd_T45 l 0) t % a
instance (a : Int) (l : List S45) (t : Int) : Decidable (tog a l t) := by unfold tog; infer_instance
theorem impl_areTogether_eq (a t : Int) (l : List S45) (h : areRun a l) (ht : 0 ≤ t ∧ t ≤ 1000000) : impl_areTogether.f a t l = some (decide (tog a l t)) := by
 obtain ⟨ha, hl, hv⟩ := h
 have h0 : rd_T45 l 0 ∈ l := by
  have e : rd_T45 l 0 = l[0] := by
   have : 0 < l.length := by omega
   simp [rd_T45, this]
  rw [e]
  exact List.getElem_mem _
 unfold impl_areTogether.f
 rw [if_neg (by omega), if_pos (by omega)]
 refine congrArg some ?_
 by_cases z : tog a l t
 ·
  rw [decide_eq_true z, Bool.not_eq_true', List.any_eq_false]
  intro x hx
  rw [spot_eq a t x ha ht (hv x hx), spot_eq a t _ ha ht (hv _ h0), z x hx]
  simp
 ·
  rw [decide_eq_false z, Bool.not_eq_false', List.any_eq_true]
  have ⟨x, hx⟩ := Classical.not_forall.mp z
  have ⟨hm, hn⟩ := Classical.not_imp.mp hx
  refine ⟨x, hm, ?_⟩
  rw [spot_eq a t x ha ht (hv x hm), spot_eq a t _ ha ht (hv _ h0)]
  simpa using hn
theorem impl_isRunTime_eq (a : Int) : impl_isRunTime.f a = some (decide (0 ≤ a ∧ a ≤ 1000000)) := by
 simp only [impl_isRunTime.f, impl_within_eq, Option.bind_some]
theorem ediv_range (n b : Int) (hb : 1 ≤ b) (hn : -1000000000000 ≤ n ∧ n ≤ 1000000000000) : -1000000000000 ≤ n / b ∧ n / b ≤ 1000000000000 := by
 constructor
 ·
  apply Int.le_ediv_of_mul_le (by omega)
  omega
 ·
  rcases Int.le_total 0 n with z | z
  ·
   have := Int.ediv_le_self b z
   omega
  ·
   have := Int.ediv_le_ediv (show 0 < b by omega) z
   rw [Int.zero_ediv] at this
   omega
theorem onTrack_two (a s v t u : Int) : impl_onTrack.f a [⟨s, v⟩, ⟨t, u⟩] = some (decide (two a s v t u)) := by
 rw [impl_onTrack_eq]
 exact congrArg some (decide_eq_decide.mpr (areRun_two a s v t u))
theorem far_two {a s v t u n : Int} (h : two a s v t u) (hn : 0 ≤ n ∧ n ≤ 1000000) : 0 ≤ s + v * n ∧ s + v * n ≤ 100000999 ∧ 0 ≤ t + u * n ∧ t + u * n ≤ 100000999 ∧ impl_farAt.f s v n = some (s + v * n) ∧ impl_farAt.f t u n = some (t + u * n) := by
 obtain ⟨⟨ha, h1⟩, _, h2⟩ := h
 unfold isRun at h1 h2
 have p1 := far_range s v n (by omega) h1.2 hn
 have p2 := far_range t u n (by omega) h2.2 hn
 exact ⟨p1.1, p1.2, p2.1, p2.2, impl_farAt_eq s v n (by omega) h1.2 hn, impl_farAt_eq t u n (by omega) h2.2 hn⟩
theorem impl_LeadBetween_eq (a s v t u n : Int) (k : Nat) (hk : 1 < k) : impl_LeadBetween.f k a s v t u n = some (if two a s v t u ∧ (0 ≤ n ∧ n ≤ 1000000) then (s + v * n - (t + u * n), true) else (0, false)) := by
 obtain ⟨k, rfl⟩ : ∃ m, k = m + 1 := ⟨k - 1, by omega⟩
 unfold impl_LeadBetween.f
 rw [onTrack_two]
 by_cases h : two a s v t u
 ·
  rw [decide_eq_true h, impl_isRunTime_eq]
  by_cases hn : 0 ≤ n ∧ n ≤ 1000000
  ·
   have p := far_two h hn
   rw [decide_eq_true hn, if_pos ⟨h, hn⟩]
   simp only [Option.bind_some, if_true, impl_LeadBetween.j0, Bool.not_true, Bool.false_eq_true, if_false, p.2.2.2.2.1, p.2.2.2.2.2]
   rw [w64 (by omega)]
  ·
   rw [decide_eq_false hn, if_neg (fun z => hn z.2)]
   simp only [Option.bind_some, if_true, impl_LeadBetween.j0, Bool.not_false]
 ·
  rw [decide_eq_false h, if_neg (fun z => h z.1)]
  simp only [Option.bind_some, Bool.false_eq_true, if_false, impl_LeadBetween.j0, if_true]
theorem laws_qSame_l0 (l : List Int) (hl : l.length ≤ 1000000000) (d : Nat) : ∀ (k i : Nat), i + d = l.length → d < k → laws_qSame.l0 k l l (l.length : Int) (i : Int) = some true := by
 induction d with
 | zero =>
  intro k i hi hk
  obtain ⟨k, rfl⟩ : ∃ m, k = m + 1 := ⟨k - 1, by omega⟩
  simp only [laws_qSame.l0]
  rw [if_neg (by omega)]
 | succ d ih =>
  intro k i hi hk
  obtain ⟨k, rfl⟩ : ∃ m, k = m + 1 := ⟨k - 1, by omega⟩
  have e1 : wrap64 ((i : Int) + 1) = ((i + 1 : Nat) : Int) := by rw [w64 (by omega)]; rfl
  simp only [laws_qSame.l0, if_true]
  rw [if_pos (by omega), if_pos (by omega), if_pos (by omega), if_pos (by omega), e1]
  exact ih k (i + 1) (by omega) (by omega)
theorem laws_qSame_eq (l : List Int) (hl : l.length ≤ 1000000000) (k : Nat) (hk : l.length < k) : laws_qSame.f k l l = some true := by
 unfold laws_qSame.f
 rw [if_pos rfl]
 exact laws_qSame_l0 l hl l.length k 0 (by omega) hk
theorem laws_qRises_l0 (l : List Int) (hl : l.length ≤ 1000000000) (hp : l.Pairwise (· < ·)) (d : Nat) : ∀ (k i : Nat), 1 ≤ i → l.length ≤ i + d → d < k → laws_qRises.l0 k l (i : Int) = some true := by
 induction d with
 | zero =>
  intro k i h1 hi hk
  obtain ⟨k, rfl⟩ : ∃ m, k = m + 1 := ⟨k - 1, by omega⟩
  simp only [laws_qRises.l0]
  rw [if_neg (by omega)]
 | succ d ih =>
  intro k i h1 hi hk
  obtain ⟨k, rfl⟩ : ∃ m, k = m + 1 := ⟨k - 1, by omega⟩
  simp only [laws_qRises.l0]
  by_cases hlt : i < l.length
  ·
   have e1 : wrap64 ((i : Int) + 1) = ((i + 1 : Nat) : Int) := by rw [w64 (by omega)]; rfl
   have e2 : wrap64 ((i : Int) - 1) = ((i - 1 : Nat) : Int) := by rw [w64 (by omega)]; omega
   have r1 : rd l (i : Int) = l[i] := by simp [rd, hlt]
   have hlt2 : i - 1 < l.length := by omega
   have r2 : rd l ((i - 1 : Nat) : Int) = l[i - 1] := by unfold rd; rw [Int.toNat_natCast, List.getD_eq_getElem?_getD, List.getElem?_eq_getElem hlt2]; rfl
   have hpp := (List.pairwise_iff_getElem.mp hp) (i - 1) i hlt2 hlt (by omega)
   rw [if_pos (by omega), e2, if_pos (by omega), if_pos (by omega), if_pos (by omega), r1, r2, if_neg (by omega), e1]
   exact ih k (i + 1) (by omega) (by omega) (by omega)
  ·
   rw [if_neg (by omega)]
theorem laws_qRises_eq (l : List Int) (hl : l.length ≤ 1000000000) (hp : l.Pairwise (· < ·)) (k : Nat) (hk : l.length < k) : laws_qRises.f k l = some true := by
 unfold laws_qRises.f
 exact laws_qRises_l0 l hl hp l.length k 1 (Nat.le_refl 1) (by omega) hk
theorem areRun_one (a s v : Int) : areRun a [⟨s, v⟩] ↔ (2 ≤ a ∧ a ≤ 1000) ∧ isRun a s v := by
 unfold areRun
 simp
theorem impl_PlaceOnTrack_yes (a s v n : Int) (h : (2 ≤ a ∧ a ≤ 1000) ∧ isRun a s v) (hn : 0 ≤ n ∧ n ≤ 1000000) : impl_PlaceOnTrack.f a s v n = some ((s + v * n) % a, true) := by
 have g := h.2
 unfold isRun at g
 have p := far_range s v n (by omega) g.2 hn
 unfold impl_PlaceOnTrack.f
 rw [impl_onTrack_eq, decide_eq_true ((areRun_one a s v).mpr h), impl_isRunTime_eq, decide_eq_true hn]
 simp only [Option.bind_some, if_true]
 rw [impl_farAt_eq s v n (by omega) g.2 hn]
 simp only [Option.bind_some]
 rw [if_neg (by omega), Int.tmod_eq_emod_of_nonneg p.1]
theorem laws_qHas_l0 (l : List Int) (x : Int) (hl : l.length ≤ 1000000000) (d : Nat) : ∀ (k i : Nat), i + d = l.length → d < k → laws_qHas.l0 k x l (l.length : Int) (i : Int) = some (decide (x ∈ l.drop i)) := by
 induction d with
 | zero =>
  intro k i hi hk
  obtain ⟨k, rfl⟩ : ∃ m, k = m + 1 := ⟨k - 1, by omega⟩
  simp only [laws_qHas.l0]
  rw [if_neg (by omega), List.drop_of_length_le (by omega)]
  simp
 | succ d ih =>
  intro k i hi hk
  obtain ⟨k, rfl⟩ : ∃ m, k = m + 1 := ⟨k - 1, by omega⟩
  have hlt : i < l.length := by omega
  have e1 : wrap64 ((i : Int) + 1) = ((i + 1 : Nat) : Int) := by rw [w64 (by omega)]; rfl
  have r1 : rd l (i : Int) = l[i] := by simp [rd, hlt]
  simp only [laws_qHas.l0]
  rw [if_pos (by omega), if_pos (by omega), if_pos (by omega), r1, e1, List.drop_eq_getElem_cons hlt]
  by_cases z : l[i] = x
  ·
   rw [if_pos z, z]
   simp
  ·
   rw [if_neg z, ih k (i + 1) (by omega) (by omega)]
   refine congrArg some (decide_eq_decide.mpr ?_)
   rw [List.mem_cons]
   exact ⟨fun h => .inr h, fun h => h.resolve_left fun e => z e.symm⟩
theorem laws_qHas_eq (l : List Int) (x : Int) (hl : l.length ≤ 1000000000) (k : Nat) (hk : l.length < k) : laws_qHas.f k l x = some (decide (x ∈ l)) := by
 have := laws_qHas_l0 l x hl l.length k 0 (by omega) hk
 unfold laws_qHas.f
 exact this
theorem impl_divisorOf_l0 (n : Nat) : ∀ (k : Nat) (a b : Int), 0 ≤ a → 0 ≤ b → b ≤ n → n < k → impl_divisorOf.l0 k a b = some (Int.gcd a b : Int) := by
 induction n with
 | zero =>
  intro k a b ha hb hn hk
  obtain ⟨k, rfl⟩ : ∃ m, k = m + 1 := ⟨k - 1, by omega⟩
  obtain rfl : b = 0 := by omega
  simp only [impl_divisorOf.l0]
  rw [if_neg (by omega), Int.gcd_zero_right]
  congr 1
  omega
 | succ n ih =>
  intro k a b ha hb hn hk
  obtain ⟨k, rfl⟩ : ∃ m, k = m + 1 := ⟨k - 1, by omega⟩
  simp only [impl_divisorOf.l0]
  by_cases h : b > 0
  ·
   rw [if_pos h, if_neg (by omega)]
   have h1 : 0 ≤ a.tmod b := Int.tmod_nonneg b ha
   have h2 : a.tmod b < b := Int.tmod_lt_of_pos a h
   rw [ih k b (a.tmod b) hb h1 (by omega) (by omega), gcd_step a b ha hb]
  ·
   obtain rfl : b = 0 := by omega
   rw [if_neg h, Int.gcd_zero_right]
   congr 1
   omega
theorem impl_divisorOf_eq (k : Nat) (a b : Int) (ha : 0 ≤ a) (hb : 0 ≤ b) (hk : b < k) : impl_divisorOf.f k a b = some (Int.gcd a b : Int) := by
 unfold impl_divisorOf.f
 exact impl_divisorOf_l0 b.toNat k a b ha hb (by omega) (by omega)
theorem impl_runPeriod_l0 (a : Int) (ha : 2 ≤ a ∧ a ≤ 1000) (l : List S45) (hl : l.length ≤ 6) (hv : ∀ x ∈ l, 1 ≤ x.f1 ∧ x.f1 ≤ 100) (d : Nat) : ∀ (k i : Nat) (c : Int), i + d = l.length → d + 200 < k → 0 < c → c ≤ 1000 →
  impl_runPeriod.l0 k a c l (l.length : Int) (i : Int) = some (a / gf c (l.drop i)) := by
 induction d with
 | zero =>
  intro k i c hi hk h0 h1
  obtain ⟨k, rfl⟩ : ∃ m, k = m + 1 := ⟨k - 1, by omega⟩
  have q0 := Int.ediv_nonneg (show 0 ≤ a by omega) (show 0 ≤ c by omega)
  have q1 := Int.ediv_le_self c (show 0 ≤ a by omega)
  simp only [impl_runPeriod.l0]
  rw [if_neg (by omega), if_neg (by omega), List.drop_of_length_le (by omega), Int.tdiv_eq_ediv_of_nonneg (by omega), w64 (by omega)]
  rfl
 | succ d ih =>
  intro k i c hi hk h0 h1
  obtain ⟨k, rfl⟩ : ∃ m, k = m + 1 := ⟨k - 1, by omega⟩
  have hlt : i < l.length := by omega
  have er : rd_T45 l (i : Int) = l[i] := by simp [rd_T45, hlt]
  have e1 : wrap64 ((i : Int) + 1) = ((i + 1 : Nat) : Int) := by rw [w64 (by omega)]; rfl
  have hx := hv l[i] (List.getElem_mem hlt)
  have g := gcd_range c l[i].f1 h0
  simp only [impl_runPeriod.l0]
  rw [if_pos (by omega), if_pos (by omega), if_pos (by omega), er, impl_divisorOf_eq k c l[i].f1 (by omega) (by omega) (by omega), List.drop_eq_getElem_cons hlt]
  simp only [Option.bind_some]
  rw [e1, ih k (i + 1) _ (by omega) (by omega) g.1 (by omega)]
  rfl
theorem impl_runPeriod_eq (a : Int) (ha : 2 ≤ a ∧ a ≤ 1000) (l : List S45) (hl : l.length ≤ 6) (hv : ∀ x ∈ l, 1 ≤ x.f1 ∧ x.f1 ≤ 100) (k : Nat) (hk : 300 < k) : impl_runPeriod.f k a l = some (a / gf a l) := by
 unfold impl_runPeriod.f
 have := impl_runPeriod_l0 a ha l hl hv l.length k 0 a (by omega) (by omega) (by omega) (by omega)
 simpa using this
theorem spec_trList_eq (a : Int) (l : List S45) (hl : l.length ≤ 1000000000) (k : Nat) (hk : l.length < k) : spec_trList.f k a l = some (decide (areRun a l)) := by
 obtain ⟨b, h1, h2⟩ := spec_trList_iff a l hl k hk
 rw [h1]
 congr 1
 rw [Bool.eq_iff_iff, decide_eq_true_eq, h2]
 unfold areRun
 constructor
 ·
  rintro ⟨y, z⟩
  have ⟨q, hq⟩ : ∃ q, q ∈ l := List.exists_mem_of_length_pos (by omega)
  exact ⟨(z q hq).1, y, fun q hq => (z q hq).2⟩
 ·
  rintro ⟨x, y, z⟩
  exact ⟨y, fun q hq => ⟨x, z q hq⟩⟩
def mt (c : Int → Bool) : Nat → Int → List Int
 | 0, _ => []
 | d + 1, t => (if c t = true then [t] else []) ++ mt c d (t + 1)
theorem mt_length (c : Int → Bool) (d : Nat) : ∀ t, (mt c d t).length ≤ d := by
 induction d with
 | zero => exact fun _ => Nat.le_refl 0
 | succ d ih =>
  intro t
  have := ih (t + 1)
  unfold mt
  rw [List.length_append]
  split <;> simp only [List.length_cons, List.length_nil] <;> omega
theorem spec_times_l0 (a s v t u : Int) (ha : 2 ≤ a ∧ a ≤ 1000) (h1 : isRun a s v) (h2 : isRun a t u) (n : Int) (hn : 0 ≤ n ∧ n ≤ 10000) (d : Nat) : ∀ (k : Nat) (x : Int) (acc : List Int), x + d = n + 1 → d < k → 0 ≤ x → acc.length ≤ x.toNat →
  spec_MeetingTimes.l0 k a n acc x s v t u = some (acc ++ mt (fun x => decide ((s + v * x) % a = (t + u * x) % a)) d x, true) := by
 have g1 := h1
 have g2 := h2
 unfold isRun at g1 g2
 induction d with
 | zero =>
  intro k x acc hd hk hx hacc
  obtain ⟨k, rfl⟩ : ∃ m, k = m + 1 := ⟨k - 1, by omega⟩
  simp only [spec_MeetingTimes.l0]
  rw [if_neg (by omega)]
  simp [mt]
 | succ d ih =>
  intro k x acc hd hk hx hacc
  obtain ⟨k, rfl⟩ : ∃ m, k = m + 1 := ⟨k - 1, by omega⟩
  simp only [spec_MeetingTimes.l0]
  rw [if_pos (by omega), spec_trPlace_eq a s v x ha (by omega) g1.2 (by omega)]
  simp only [Option.bind_some]
  rw [spec_trPlace_eq a t u x ha (by omega) g2.2 (by omega)]
  simp only [Option.bind_some]
  rw [w64 (x := x + 1) (by omega)]
  show _ = some (acc ++ ((if decide ((s + v * x) % a = (t + u * x) % a) = true then [x] else []) ++ mt _ d (x + 1)), true)
  by_cases z : (s + v * x) % a = (t + u * x) % a
  ·
   rw [if_pos z, if_pos (by omega), decide_eq_true z, if_pos rfl, ih k (x + 1) _ (by omega) (by omega) (by omega) (by rw [List.length_append]; simp only [List.length_cons, List.length_nil]; omega), List.append_assoc]
  ·
   rw [if_neg z, decide_eq_false z, if_neg Bool.false_ne_true, List.nil_append]
   exact ih k (x + 1) _ (by omega) (by omega) (by omega) (by omega)
theorem impl_times_l0 (a s v t u : Int) (ha : areRun a [⟨s, v⟩, ⟨t, u⟩]) (n : Int) (hn : 0 ≤ n ∧ n ≤ 10000) (d : Nat) : ∀ (k : Nat) (x : Int) (acc : List Int), x + d = n + 1 → d < k → 0 ≤ x → acc.length ≤ x.toNat →
  impl_MeetingTimes.l0 k a acc (n + 1) x s v t u = some (acc ++ mt (fun x => decide ((s + v * x) % a = (t + u * x) % a)) d x, true) := by
 induction d with
 | zero =>
  intro k x acc hd hk hx hacc
  obtain ⟨k, rfl⟩ : ∃ m, k = m + 1 := ⟨k - 1, by omega⟩
  simp only [impl_MeetingTimes.l0]
  rw [if_neg (by omega)]
  simp [mt]
 | succ d ih =>
  intro k x acc hd hk hx hacc
  obtain ⟨k, rfl⟩ : ∃ m, k = m + 1 := ⟨k - 1, by omega⟩
  simp only [impl_MeetingTimes.l0]
  rw [if_pos (by omega), impl_areTogether_eq a x _ ha (by omega)]
  simp only [Option.bind_some]
  rw [w64 (x := x + 1) (by omega)]
  have iff1 : tog a [⟨s, v⟩, ⟨t, u⟩] x ↔ (s + v * x) % a = (t + u * x) % a := by
   unfold tog farP
   simp [rd_T45]
   exact eq_comm
  show _ = some (acc ++ ((if decide ((s + v * x) % a = (t + u * x) % a) = true then [x] else []) ++ mt _ d (x + 1)), true)
  by_cases z : (s + v * x) % a = (t + u * x) % a
  ·
   rw [decide_eq_true (iff1.mpr z), if_pos rfl, if_pos (by omega), decide_eq_true z, if_pos rfl, ih k (x + 1) _ (by omega) (by omega) (by omega) (by rw [List.length_append]; simp only [List.length_cons, List.length_nil]; omega), List.append_assoc]
  ·
   rw [decide_eq_false (fun y => z (iff1.mp y)), if_neg Bool.false_ne_true, decide_eq_false z, if_neg Bool.false_ne_true, List.nil_append]
   exact ih k (x + 1) _ (by omega) (by omega) (by omega) (by omega)
theorem compact_inc (d : Array Int) (hd : ∀ i j, i ≤ j → j < d.size → d[i]! ≤ d[j]!) : ∀ m, m ≤ d.size → (Go.Lib.compactUpTo d m).Pairwise (· < ·) ∧ ∀ x, x ∈ Go.Lib.compactUpTo d m ↔ ∃ j, j < m ∧ d[j]! = x := by
 intro m
 induction m with
 | zero =>
  intro _
  refine ⟨by simp [Go.Lib.compactUpTo], fun x => ?_⟩
  simp [Go.Lib.compactUpTo]
 | succ m ih =>
  intro hm
  obtain ⟨ih1, ih2⟩ := ih (by omega)
  rw [Go.Lib.compactUpTo_succ]
  by_cases hk : m = 0 ∨ d[m]! ≠ d[m - 1]!
  ·
   have hk' : Go.Lib.keeps d m = true := decide_eq_true hk
   rw [if_pos hk']
   refine ⟨List.pairwise_append.mpr ⟨ih1, List.pairwise_singleton _ _, fun x hx y hy => ?_⟩, fun x => ?_⟩
   ·
    rw [List.mem_singleton] at hy
    subst hy
    obtain ⟨j, hj, rfl⟩ := (ih2 x).mp hx
    have h1 := hd j (m - 1) (by omega) (by omega)
    have h2 := hd (m - 1) m (by omega) (by omega)
    have h3 : d[m]! ≠ d[m - 1]! := hk.resolve_left (by omega)
    omega
   ·
    rw [List.mem_append, List.mem_singleton, ih2]
    constructor
    ·
     rintro (⟨j, hj, e⟩ | e)
     ·
      exact ⟨j, by omega, e⟩
     ·
      exact ⟨m, by omega, e.symm⟩
    ·
     rintro ⟨j, hj, e⟩
     by_cases h : j = m
     ·
      subst h; exact .inr e.symm
     ·
      exact .inl ⟨j, by omega, e⟩
  ·
   have hk' : Go.Lib.keeps d m = false := decide_eq_false hk
   rw [hk', if_neg Bool.false_ne_true, List.append_nil]
   refine ⟨ih1, fun x => ?_⟩
   rw [ih2]
   constructor
   ·
    rintro ⟨j, hj, e⟩
    exact ⟨j, by omega, e⟩
   ·
    rintro ⟨j, hj, e⟩
    by_cases h : j = m
    ·
     subst h
     have h4 : j ≠ 0 := fun z => hk (.inl z)
     have h5 : d[j]! = d[j - 1]! := by
      by_cases z : d[j]! = d[j - 1]!
      ·
       exact z
      ·
       exact absurd (.inr z) hk
     exact ⟨j - 1, by omega, by rw [← h5]; exact e⟩
    ·
     exact ⟨j, by omega, e⟩
theorem inc_ext : ∀ (A B : List Int), A.Pairwise (· < ·) → B.Pairwise (· < ·) → (∀ x, x ∈ A ↔ x ∈ B) → A = B
 | [], [], _, _, _ => rfl
 | [], b :: B, _, _, h => by have := (h b).mpr List.mem_cons_self; cases this
 | a :: A, [], _, _, h => by have := (h a).mp List.mem_cons_self; cases this
 | a :: A, b :: B, hA, hB, h => by
  rw [List.pairwise_cons] at hA hB
  have e : a = b := by
   have h1 := (h a).mp List.mem_cons_self
   have h2 := (h b).mpr List.mem_cons_self
   rw [List.mem_cons] at h1 h2
   rcases h1 with h1 | h1
   ·
    exact h1
   ·
    rcases h2 with h2 | h2
    ·
     exact h2.symm
    ·
     have := hA.1 b h2
     have := hB.1 a h1
     omega
  subst e
  congr 1
  refine inc_ext A B hA.2 hB.2 (fun x => ?_)
  constructor
  ·
   intro hx
   have := (h x).mp (List.mem_cons_of_mem _ hx)
   rw [List.mem_cons] at this
   rcases this with e | e
   ·
    subst e; exact absurd (hA.1 x hx) (by omega)
   ·
    exact e
  ·
   intro hx
   have := (h x).mpr (List.mem_cons_of_mem _ hx)
   rw [List.mem_cons] at this
   rcases this with e | e
   ·
    subst e; exact absurd (hB.1 x hx) (by omega)
   ·
    exact e
theorem sorted_get (l : List Int) (h : l.Pairwise (· ≤ ·)) : ∀ i j, i ≤ j → j < l.toArray.size → l.toArray[i]! ≤ l.toArray[j]! := by
 intro i j hij hj
 have hj' : j < l.length := by simpa using hj
 have hi' : i < l.length := by omega
 rw [getElem!_pos _ i (by simpa using hi'), getElem!_pos _ j hj]
 simp only [List.getElem_toArray]
 rcases Nat.lt_or_eq_of_le hij with h1 | h1
 ·
  exact List.pairwise_iff_getElem.mp h i j hi' hj' h1
 ·
  subst h1; exact Int.le_refl _
theorem compact_sort (L B : List Int) (hB : B.Pairwise (· < ·)) (h : ∀ x, x ∈ L ↔ x ∈ B) : Go.Lib.compact (L.mergeSort fun x y => decide (x ≤ y)) = B := by
 obtain ⟨S, hS⟩ : ∃ S, S = L.mergeSort fun x y => decide (x ≤ y) := ⟨_, rfl⟩
 have hp : S.Pairwise (· ≤ ·) := by
  have := List.pairwise_mergeSort (le := fun x y : Int => decide (x ≤ y)) (by intro a b c; simp; omega) (by intro a b; simp; omega) L
  rw [← hS] at this
  exact this.imp (fun h => of_decide_eq_true h)
 have hm : ∀ x, x ∈ S ↔ x ∈ L := fun x => by rw [hS]; exact List.mem_mergeSort
 rw [← hS]
 obtain ⟨c1, c2⟩ := compact_inc S.toArray (sorted_get S hp) S.length (by simp)
 refine inc_ext _ _ c1 hB (fun x => ?_)
 rw [← h, ← hm]
 show x ∈ Go.Lib.compactUpTo S.toArray S.length ↔ _
 rw [c2]
 constructor
 ·
  rintro ⟨j, hj, e⟩
  rw [getElem!_pos _ j (by simpa using hj)] at e
  simp only [List.getElem_toArray] at e
  rw [← e]
  exact List.getElem_mem hj
 ·
  intro hx
  obtain ⟨j, hj, e⟩ := List.mem_iff_getElem.mp hx
  exact ⟨j, hj, by rw [getElem!_pos _ j (by simpa using hj)]; simpa using e⟩
/-- the places met at, in the order of the times -/
def pl (c : Int → Bool) (f : Int → Int) : Nat → Int → List Int
 | 0, _ => []
 | d + 1, t => (if c t = true then [f t] else []) ++ pl c f d (t + 1)
theorem mem_pl (c : Int → Bool) (f : Int → Int) (x : Int) (d : Nat) : ∀ t, x ∈ pl c f d t ↔ ∃ y, t ≤ y ∧ y < t + d ∧ c y = true ∧ f y = x := by
 induction d with
 | zero =>
  intro t
  constructor
  ·
   intro h; cases h
  ·
   rintro ⟨y, h1, h2, _⟩; omega
 | succ d ih =>
  intro t
  unfold pl
  rw [List.mem_append, ih]
  constructor
  ·
   rintro (h | ⟨y, h1, h2, h3⟩)
   ·
    by_cases z : c t = true
    ·
     rw [if_pos z, List.mem_singleton] at h
     exact ⟨t, Int.le_refl t, by omega, z, h.symm⟩
    ·
     rw [if_neg z] at h; cases h
   ·
    exact ⟨y, by omega, by omega, h3⟩
  ·
   rintro ⟨y, h1, h2, h3, h4⟩
   by_cases z : y = t
   ·
    subst z
    rw [if_pos h3, List.mem_singleton]
    exact .inl h4.symm
   ·
    exact .inr ⟨y, by omega, by omega, h3, h4⟩
/-- the marks: of each place whether it was met at -/
def mk (c : Int → Bool) (f : Int → Int) : Nat → Int → List Bool → List Bool
 | 0, _, M => M
 | d + 1, t, M => mk c f d (t + 1) (if c t = true then M.set (f t).toNat true else M)
theorem mk_length (c : Int → Bool) (f : Int → Int) (d : Nat) : ∀ t M, (mk c f d t M).length = M.length := by
 induction d with
 | zero => exact fun _ _ => rfl
 | succ d ih =>
  intro t M
  unfold mk
  rw [ih]
  split <;> simp
theorem mk_get (c : Int → Bool) (f : Int → Int) (j : Nat) (d : Nat) : ∀ (t : Int) (M : List Bool), j < M.length → (∀ y : Int, t ≤ y → y < t + d → 0 ≤ f y) → (((mk c f d t M).getD j false = true) ↔ (M.getD j false = true ∨ ∃ y, t ≤ y ∧ y < t + d ∧ c y = true ∧ f y = j)) := by
 induction d with
 | zero =>
  intro t M hj hf
  constructor
  ·
   exact fun h => .inl h
  ·
   rintro (h | ⟨y, h1, h2, _⟩)
   ·
    exact h
   ·
    omega
 | succ d ih =>
  intro t M hj hf
  unfold mk
  rw [ih _ _ (by split <;> simpa using hj) (fun y h1 h2 => hf y (by omega) (by omega))]
  have h0 := hf t (Int.le_refl t) (by omega)
  by_cases z : c t = true
  ·
   rw [if_pos z]
   by_cases e : f t = j
   ·
    have e2 : (f t).toNat = j := by omega
    constructor
    ·
     exact fun _ => .inr ⟨t, Int.le_refl t, by omega, z, e⟩
    ·
     intro _
     refine .inl ?_
     rw [e2, List.getD_eq_getElem?_getD, List.getElem?_set_self hj]
     rfl
   ·
    have e2 : (f t).toNat ≠ j := by omega
    rw [List.getD_eq_getElem?_getD, List.getElem?_set_ne e2, ← List.getD_eq_getElem?_getD]
    constructor
    ·
     rintro (h | ⟨y, h1, h2, h3⟩)
     ·
      exact .inl h
     ·
      exact .inr ⟨y, by omega, by omega, h3⟩
    ·
     rintro (h | ⟨y, h1, h2, h3, h4⟩)
     ·
      exact .inl h
     ·
      by_cases q : y = t
      ·
       subst q; exact absurd h4 e
      ·
       exact .inr ⟨y, by omega, by omega, h3, h4⟩
  ·
   rw [if_neg z]
   constructor
   ·
    rintro (h | ⟨y, h1, h2, h3⟩)
    ·
     exact .inl h
    ·
     exact .inr ⟨y, by omega, by omega, h3⟩
   ·
    rintro (h | ⟨y, h1, h2, h3, h4⟩)
    ·
     exact .inl h
    ·
     by_cases q : y = t
     ·
      subst q; exact absurd h3 z
     ·
      exact .inr ⟨y, by omega, by omega, h3, h4⟩
/-- the marked places from t on -/
def marked (M : List Bool) : Nat → Int → List Int
 | 0, _ => []
 | d + 1, t => (if rdOf false M t = true then [t] else []) ++ marked M d (t + 1)
theorem marked_length (M : List Bool) (d : Nat) : ∀ t, (marked M d t).length ≤ d := by
 induction d with
 | zero => exact fun _ => Nat.le_refl 0
 | succ d ih =>
  intro t
  have := ih (t + 1)
  unfold marked
  rw [List.length_append]
  split <;> simp only [List.length_cons, List.length_nil] <;> omega
theorem mem_marked (M : List Bool) (x : Int) (d : Nat) : ∀ t, x ∈ marked M d t ↔ t ≤ x ∧ x < t + d ∧ rdOf false M x = true := by
 induction d with
 | zero =>
  intro t
  constructor
  ·
   intro h; cases h
  ·
   rintro ⟨h1, h2, _⟩; omega
 | succ d ih =>
  intro t
  unfold marked
  rw [List.mem_append, ih]
  constructor
  ·
   rintro (h | ⟨h1, h2, h3⟩)
   ·
    by_cases z : rdOf false M t = true
    ·
     rw [if_pos z, List.mem_singleton] at h
     subst h
     exact ⟨Int.le_refl x, by omega, z⟩
    ·
     rw [if_neg z] at h; cases h
   ·
    exact ⟨by omega, by omega, h3⟩
  ·
   rintro ⟨h1, h2, h3⟩
   by_cases z : x = t
   ·
    subst z
    rw [if_pos h3, List.mem_singleton]
    exact .inl rfl
   ·
    exact .inr ⟨by omega, by omega, h3⟩
theorem marked_inc (M : List Bool) (d : Nat) : ∀ t, (marked M d t).Pairwise (· < ·) := by
 induction d with
 | zero => exact fun _ => List.Pairwise.nil
 | succ d ih =>
  intro t
  unfold marked
  refine List.pairwise_append.mpr ⟨by split <;> simp, ih _, fun x hx y hy => ?_⟩
  have h1 := (mem_marked M y d (t + 1)).mp hy
  by_cases z : rdOf false M t = true
  ·
   rw [if_pos z, List.mem_singleton] at hx
   omega
  ·
   rw [if_neg z] at hx; cases hx
theorem spec_places_l1 (M : List Bool) (hM : M.length ≤ 1000) (d : Nat) : ∀ (k : Nat) (x : Int) (acc : List Int), x + d = M.length → d < k → 0 ≤ x → acc.length ≤ x.toNat →
  spec_MeetingPlaces.l1 k acc M (M.length : Int) x = some (acc ++ marked M d x, true) := by
 induction d with
 | zero =>
  intro k x acc hd hk hx hacc
  obtain ⟨k, rfl⟩ : ∃ m, k = m + 1 := ⟨k - 1, by omega⟩
  simp only [spec_MeetingPlaces.l1]
  rw [if_neg (by omega)]
  simp [marked]
 | succ d ih =>
  intro k x acc hd hk hx hacc
  obtain ⟨k, rfl⟩ : ∃ m, k = m + 1 := ⟨k - 1, by omega⟩
  simp only [spec_MeetingPlaces.l1]
  rw [if_pos (by omega), if_pos hx, if_pos (by omega), w64 (x := x + 1) (by omega)]
  show _ = some (acc ++ ((if rdOf false M x = true then [x] else []) ++ marked M d (x + 1)), true)
  by_cases z : rdOf false M x = true
  ·
   rw [if_pos z, if_pos (by omega), if_pos z, ih k (x + 1) _ (by omega) (by omega) (by omega) (by rw [List.length_append]; simp only [List.length_cons, List.length_nil]; omega), List.append_assoc]
  ·
   rw [if_neg z, if_neg z, List.nil_append]
   exact ih k (x + 1) _ (by omega) (by omega) (by omega) (by omega)
theorem spec_places_l0 (a s v t u : Int) (ha : 2 ≤ a ∧ a ≤ 1000) (h1 : isRun a s v) (h2 : isRun a t u) (d : Nat) : ∀ (k : Nat) (x : Int) (M : List Bool), x + d = a → d + 1001 < k → 0 ≤ x → (M.length : Int) = a →
  spec_MeetingPlaces.l0 k a M x s v t u = some (marked (mk (fun x => decide ((s + v * x) % a = (t + u * x) % a)) (fun x => (s + v * x) % a) d x M) a.toNat 0, true) := by
 have g1 := h1
 have g2 := h2
 unfold isRun at g1 g2
 induction d with
 | zero =>
  intro k x M hd hk hx hM
  obtain ⟨k, rfl⟩ : ∃ m, k = m + 1 := ⟨k - 1, by omega⟩
  simp only [spec_MeetingPlaces.l0]
  rw [if_neg (by omega), spec_places_l1 M (by omega) a.toNat k 0 [] (by omega) (by omega) (Int.le_refl 0) (Nat.le_refl 0)]
  rfl
 | succ d ih =>
  intro k x M hd hk hx hM
  obtain ⟨k, rfl⟩ : ∃ m, k = m + 1 := ⟨k - 1, by omega⟩
  have p1 : 0 ≤ (s + v * x) % a := Int.emod_nonneg _ (by omega)
  have p2 : (s + v * x) % a < a := Int.emod_lt_of_pos _ (by omega)
  simp only [spec_MeetingPlaces.l0]
  rw [if_pos (by omega), spec_trPlace_eq a s v x ha (by omega) g1.2 (by omega)]
  simp only [Option.bind_some]
  rw [spec_trPlace_eq a t u x ha (by omega) g2.2 (by omega)]
  simp only [Option.bind_some]
  rw [w64 (x := x + 1) (by omega)]
  show _ = some (marked (mk _ _ d (x + 1) (if decide ((s + v * x) % a = (t + u * x) % a) = true then M.set ((s + v * x) % a).toNat true else M)) a.toNat 0, true)
  by_cases z : (s + v * x) % a = (t + u * x) % a
  ·
   rw [if_pos z, if_pos p1, if_pos (by omega), decide_eq_true z, if_pos rfl, ih k (x + 1) _ (by omega) (by omega) (by omega) (by rw [List.length_set]; exact hM)]
  ·
   rw [if_neg z, decide_eq_false z, if_neg Bool.false_ne_true]
   exact ih k (x + 1) _ (by omega) (by omega) (by omega) hM
theorem impl_places_l0 (a s v t u : Int) (ha : areRun a [⟨s, v⟩, ⟨t, u⟩]) (h0 : 2 ≤ a ∧ a ≤ 1000) (g1 : isRun a s v) (d : Nat) : ∀ (k : Nat) (x : Int) (acc : List Int), x + d = a → d < k → 0 ≤ x → acc.length ≤ x.toNat →
  impl_MeetingPlaces.l0 k a acc a x s v t u = some (Go.Lib.compact ((acc ++ pl (fun x => decide ((s + v * x) % a = (t + u * x) % a)) (fun x => (s + v * x) % a) d x).mergeSort fun x y => decide (x ≤ y)), true) := by
 unfold isRun at g1
 induction d with
 | zero =>
  intro k x acc hd hk hx hacc
  obtain ⟨k, rfl⟩ : ∃ m, k = m + 1 := ⟨k - 1, by omega⟩
  simp only [impl_MeetingPlaces.l0]
  rw [if_neg (by omega)]
  simp only [slices_Sort_int_int.f, slices_Compact_int_int.f]
  rw [if_pos (by omega)]
  simp only [Option.bind_some, pl, List.append_nil]
 | succ d ih =>
  intro k x acc hd hk hx hacc
  obtain ⟨k, rfl⟩ : ∃ m, k = m + 1 := ⟨k - 1, by omega⟩
  have p := far_range s v x (by omega) g1.2 (by omega)
  simp only [impl_MeetingPlaces.l0]
  rw [if_pos (by omega), impl_areTogether_eq a x _ ha (by omega)]
  simp only [Option.bind_some]
  rw [w64 (x := x + 1) (by omega)]
  have iff1 : tog a [⟨s, v⟩, ⟨t, u⟩] x ↔ (s + v * x) % a = (t + u * x) % a := by
   unfold tog farP
   simp [rd_T45]
   exact eq_comm
  show _ = some (Go.Lib.compact ((acc ++ ((if decide ((s + v * x) % a = (t + u * x) % a) = true then [(s + v * x) % a] else []) ++ pl _ _ d (x + 1))).mergeSort fun x y => decide (x ≤ y)), true)
  by_cases z : (s + v * x) % a = (t + u * x) % a
  ·
   rw [decide_eq_true (iff1.mpr z), if_pos rfl, impl_farAt_eq s v x (by omega) g1.2 (by omega)]
   simp only [Option.bind_some]
   rw [if_neg (by omega), if_pos (by omega), decide_eq_true z, if_pos rfl, Int.tmod_eq_emod_of_nonneg p.1, ih k (x + 1) _ (by omega) (by omega) (by omega) (by rw [List.length_append]; simp only [List.length_cons, List.length_nil]; omega), List.append_assoc]
  ·
   rw [decide_eq_false (fun y => z (iff1.mp y)), if_neg Bool.false_ne_true, decide_eq_false z, if_neg Bool.false_ne_true, List.nil_append]
   exact ih k (x + 1) _ (by omega) (by omega) (by omega) (by omega)
theorem places_alike (a s v t u : Int) (ha : 2 ≤ a ∧ a ≤ 1000) :
  Go.Lib.compact ((pl (fun x => decide ((s + v * x) % a = (t + u * x) % a)) (fun x => (s + v * x) % a) a.toNat 0).mergeSort fun x y => decide (x ≤ y)) = marked (mk (fun x => decide ((s + v * x) % a = (t + u * x) % a)) (fun x => (s + v * x) % a) a.toNat 0 (List.replicate a.toNat false)) a.toNat 0 := by
 refine compact_sort _ _ (marked_inc _ _ _) (fun x => ?_)
 rw [mem_pl, mem_marked]
 have p1 : ∀ y, 0 ≤ (s + v * y) % a := fun y => Int.emod_nonneg _ (by omega)
 have p2 : ∀ y, (s + v * y) % a < a := fun y => Int.emod_lt_of_pos _ (by omega)
 have key : ∀ j : Nat, j < a.toNat → ((rdOf false (mk (fun x => decide ((s + v * x) % a = (t + u * x) % a)) (fun x => (s + v * x) % a) a.toNat 0 (List.replicate a.toNat false)) (j : Int) = true) ↔ ∃ y, 0 ≤ y ∧ y < 0 + (a.toNat : Int) ∧ decide ((s + v * y) % a = (t + u * y) % a) = true ∧ (s + v * y) % a = j) := by
  intro j hj
  unfold rdOf
  rw [Int.toNat_natCast, mk_get _ _ j a.toNat 0 _ (by rw [List.length_replicate]; exact hj) (fun y _ _ => p1 y)]
  constructor
  ·
   rintro (h | h)
   ·
    rw [List.getD_eq_getElem?_getD, List.getElem?_replicate] at h
    rw [if_pos hj] at h
    cases h
   ·
    exact h
  ·
   exact fun h => .inr h
 constructor
 ·
  rintro ⟨y, h1, h2, h3, h4⟩
  have q1 := p1 y
  have q2 := p2 y
  obtain ⟨j, rfl⟩ := Int.eq_ofNat_of_zero_le (show 0 ≤ x by rw [← h4]; exact q1)
  exact ⟨by omega, by rw [← h4]; omega, (key j (by have := h4 ▸ q2; omega)).mpr ⟨y, h1, h2, h3, h4⟩⟩
 ·
  rintro ⟨h1, h2, h3⟩
  obtain ⟨j, rfl⟩ := Int.eq_ofNat_of_zero_le h1
  exact (key j (by omega)).mp h3
/-- both round down in one way -/
theorem down_same (n b : Int) (hb : 2 ≤ b ∧ b ≤ 1000) (hn : -200000000 ≤ n ∧ n ≤ 200000000) : spec_trDown.f n b = some (n / b) ∧ impl_floorDiv.f n b = some (n / b) := by
 have q := Int.mul_ediv_add_emod n b
 have r1 := Int.emod_nonneg n (show b ≠ 0 by omega)
 have r2 := Int.emod_lt_of_pos n (show 0 < b by omega)
 have lo : -200000000 ≤ n / b := by
  apply Int.le_ediv_of_mul_le (by omega)
  omega
 have hi : n / b ≤ 200000000 := by
  rcases Int.le_total 0 n with z | z
  ·
   have := Int.ediv_le_self b z
   omega
  ·
   have := Int.ediv_le_ediv (show 0 < b by omega) z
   rw [Int.zero_ediv] at this
   omega
 constructor
 ·
  unfold spec_trDown.f
  by_cases h : n < 0
  ·
   have e : Int.tdiv (b - 1 - n) b = -(n / b) := by
    rw [Int.tdiv_eq_ediv_of_nonneg (by omega)]
    exact ((Int.ediv_emod_unique (r := b - 1 - n % b) (show 0 < b by omega)).2 ⟨by rw [Int.mul_neg]; omega, by omega, by omega⟩).1
   rw [if_pos h, if_neg (by omega), w64 (x := b - 1) (by omega), w64 (x := b - 1 - n) (by omega), e, w64 (x := -(n / b)) (by omega), Int.neg_neg, w64 (by omega)]
  ·
   rw [if_neg h, if_neg (by omega), Int.tdiv_eq_ediv_of_nonneg (by omega), w64 (by omega)]
 ·
  unfold impl_floorDiv.f
  rw [if_neg (by omega)]
  by_cases h : 0 ≤ n
  ·
   rw [Int.tmod_eq_emod_of_nonneg h, if_neg (by omega), Int.tdiv_eq_ediv_of_nonneg h, w64 (by omega)]
  ·
   obtain ⟨m, rfl⟩ : ∃ m, n = -m := ⟨-n, by omega⟩
   have hm : 0 ≤ m := by omega
   have q2 := Int.mul_ediv_add_emod m b
   have s1 := Int.emod_nonneg m (show b ≠ 0 by omega)
   have s2 := Int.emod_lt_of_pos m (show 0 < b by omega)
   have g := Int.ediv_le_self b hm
   have g0 := Int.ediv_nonneg hm (show 0 ≤ b by omega)
   rw [Int.neg_tmod, Int.neg_tdiv, Int.tmod_eq_emod_of_nonneg hm, Int.tdiv_eq_ediv_of_nonneg hm]
   by_cases z : m % b = 0
   ·
    have e : -m / b = -(m / b) := ((Int.ediv_emod_unique (r := 0) (show 0 < b by omega)).2 ⟨by rw [Int.mul_neg]; omega, by omega, by omega⟩).1
    rw [if_neg (by omega), e, w64 (by omega)]
   ·
    have e : -m / b = -(m / b) - 1 := ((Int.ediv_emod_unique (r := b - m % b) (show 0 < b by omega)).2 ⟨by rw [Int.mul_sub, Int.mul_neg]; omega, by omega, by omega⟩).1
    rw [if_pos (by omega), e, w64 (x := -(m / b)) (by omega), w64 (by omega)]
theorem far_spec (s v t : Int) (hs : 0 ≤ s ∧ s ≤ 999) (hv : 1 ≤ v ∧ v ≤ 100) (ht : 0 ≤ t ∧ t ≤ 1000000) : spec_trFar.f s v t = some (s + v * t) ∧ impl_farAt.f s v t = some (s + v * t) ∧ 0 ≤ v * t ∧ v * t ≤ 100000000 := by
 have p := bm (A := 100) (B := 1000000) (a := v) (b := t) (by omega) ht
 unfold spec_trFar.f impl_farAt.f
 rw [w64 (x := v * t) (by omega), w64 (x := s + v * t) (by omega)]
 exact ⟨rfl, rfl, p⟩
def first (C : Int → Bool) : Nat → Int → Int × Bool
 | 0, _ => (0, false)
 | d + 1, t => if C t = true then (t, true) else first C d (t + 1)
theorem first_none (C : Int → Bool) (d : Nat) : ∀ t : Int, (∀ x : Int, t ≤ x → x < t + d → C x = false) → first C d t = (0, false) := by
 induction d with
 | zero => exact fun _ _ => rfl
 | succ d ih =>
  intro t h
  unfold first
  rw [h t (Int.le_refl t) (by omega), if_neg Bool.false_ne_true]
  exact ih (t + 1) (fun x h1 h2 => h x (by omega) (by omega))
theorem first_more (C : Int → Bool) (e : Nat) (d : Nat) : ∀ t : Int, (∃ x : Int, t ≤ x ∧ x < t + d ∧ C x = true) → first C (d + e) t = first C d t := by
 induction d with
 | zero =>
  rintro t ⟨x, h1, h2, _⟩
  omega
 | succ d ih =>
  rintro t ⟨x, h1, h2, h3⟩
  rw [show d + 1 + e = d + e + 1 by omega]
  unfold first
  by_cases z : C t = true
  ·
   rw [if_pos z, if_pos z]
  ·
   rw [if_neg z, if_neg z]
   refine ih (t + 1) ⟨x, ?_, by omega, h3⟩
   have : x ≠ t := fun q => z (q ▸ h3)
   omega
theorem first_period (C : Int → Bool) (n m : Nat) (hn : 0 < n) (hm : n ≤ m) (hC : ∀ t : Int, 0 ≤ t → C (t + n) = C t) : first C n 0 = first C m 0 := by
 obtain ⟨e, rfl⟩ := Nat.exists_eq_add_of_le hm
 by_cases h : ∃ x : Int, 0 ≤ x ∧ x < 0 + (n : Int) ∧ C x = true
 ·
  exact (first_more C e n 0 h).symm
 ·
  have no : ∀ x : Int, 0 ≤ x → x < n → C x = false := by
   intro x h1 h2
   cases hc : C x with
   | false => rfl
   | true => exact absurd ⟨x, h1, by omega, hc⟩ h
  have all : ∀ (q : Nat) (x : Int), 0 ≤ x → x < n → C (x + n * q) = false := by
   intro q
   induction q with
   | zero =>
    intro x h1 h2
    rw [Int.natCast_zero, Int.mul_zero, Int.add_zero]
    exact no x h1 h2
   | succ q ih =>
    intro x h1 h2
    have p := Int.mul_nonneg (show (0 : Int) ≤ n by omega) (show (0 : Int) ≤ q by omega)
    have e1 : x + (n : Int) * ((q + 1 : Nat) : Int) = x + n * q + n := by
     rw [Int.natCast_add, Int.mul_add]
     omega
    rw [e1, hC _ (by omega)]
    exact ih x h1 h2
  have every : ∀ x : Int, 0 ≤ x → C x = false := by
   intro x hx
   have q1 := Int.emod_add_mul_ediv x n
   have q2 := Int.emod_nonneg x (show (n : Int) ≠ 0 by omega)
   have q3 := Int.emod_lt_of_pos x (show (0 : Int) < n by omega)
   obtain ⟨q, hq⟩ := Int.eq_ofNat_of_zero_le (Int.ediv_nonneg hx (show (0 : Int) ≤ n by omega))
   have := all q (x % n) q2 q3
   rw [← hq, q1] at this
   exact this
  rw [first_none C n 0 (fun x h1 h2 => every x h1), first_none C (n + e) 0 (fun x h1 h2 => every x h1)]
theorem gf_dvd (l : List S45) : ∀ c : Int, gf c l ∣ c ∧ ∀ x ∈ l, gf c l ∣ x.f1 := by
 induction l with
 | nil => exact fun c => ⟨Int.dvd_refl c, fun x hx => by cases hx⟩
 | cons y r ih =>
  intro c
  have h := ih (Int.gcd c y.f1 : Int)
  have g1 := Int.gcd_dvd_left c y.f1
  have g2 := Int.gcd_dvd_right c y.f1
  refine ⟨Int.dvd_trans h.1 g1, fun x hx => ?_⟩
  rcases List.mem_cons.mp hx with rfl | hx
  ·
   exact Int.dvd_trans h.1 g2
  ·
   exact h.2 x hx
theorem tog_period (a : Int) (l : List S45) (hl : 0 < l.length) (t : Int) : tog a l (t + a / gf a l) ↔ tog a l t := by
 have d := gf_dvd l a
 have step : ∀ x ∈ l, farP x (t + a / gf a l) % a = farP x t % a := by
  intro x hx
  obtain ⟨m, hm⟩ := d.2 x hx
  have e : x.f1 * (a / gf a l) = a * m := by
   rw [hm, Int.mul_comm (gf a l) m, Int.mul_assoc, Int.mul_ediv_cancel' d.1, Int.mul_comm]
  unfold farP
  rw [Int.mul_add, e, ← Int.add_assoc, Int.add_mul_emod_self_left]
 have h0 : rd_T45 l 0 ∈ l := by
  have e : rd_T45 l 0 = l[0] := by simp [rd_T45, hl]
  rw [e]
  exact List.getElem_mem _
 unfold tog
 constructor
 ·
  intro h x hx
  have := h x hx
  rwa [step x hx, step _ h0] at this
 ·
  intro h x hx
  rw [step x hx, step _ h0]
  exact h x hx
theorem spec_all_l1 (a : Int) (l : List S45) (h : areRun a l) (t : Int) (ht : 0 ≤ t ∧ t ≤ 10000) (d : Nat) : ∀ (k i : Nat) (b : Bool), i + d = l.length → d < k →
  spec_AllRunnersTogether.l1 k a l t b l (l.length : Int) (i : Int) = if b = true ∧ (∀ x ∈ l.drop i, farP x t % a = farP (rd_T45 l 0) t % a) then some (t, true) else spec_AllRunnersTogether.l0 (k - d - 1) a l (t + 1) := by
 obtain ⟨ha, hl, hv⟩ := h
 have h0 : rd_T45 l 0 ∈ l := by
  have e : rd_T45 l 0 = l[0] := by
   have : 0 < l.length := by omega
   simp [rd_T45, this]
  rw [e]
  exact List.getElem_mem _
 have hv0 := hv _ h0
 unfold isRun at hv0
 induction d with
 | zero =>
  intro k i b hi hk
  obtain ⟨k, rfl⟩ : ∃ m, k = m + 1 := ⟨k - 1, by omega⟩
  simp only [spec_AllRunnersTogether.l1]
  rw [if_neg (by omega), List.drop_of_length_le (by omega), w64 (x := t + 1) (by omega)]
  cases b <;> simp
 | succ d ih =>
  intro k i b hi hk
  obtain ⟨k, rfl⟩ : ∃ m, k = m + 1 := ⟨k - 1, by omega⟩
  have hlt : i < l.length := by omega
  have er : rd_T45 l (i : Int) = l[i] := by simp [rd_T45, hlt]
  have e1 : wrap64 ((i : Int) + 1) = ((i + 1 : Nat) : Int) := by rw [w64 (by omega)]; rfl
  have hx := hv l[i] (List.getElem_mem hlt)
  unfold isRun at hx
  have ek : k + 1 - (d + 1) - 1 = k - d - 1 := by omega
  simp only [spec_AllRunnersTogether.l1]
  rw [if_pos (by omega), if_pos (by omega), if_pos (by omega), er, e1, ek, List.drop_eq_getElem_cons hlt]
  cases b with
  | false =>
   rw [if_neg Bool.false_ne_true, ih k (i + 1) false (by omega) (by omega), if_neg (fun z => Bool.false_ne_true z.1), if_neg (fun z => Bool.false_ne_true z.1)]
  | true =>
   rw [if_pos rfl, spec_trPlace_eq a _ _ t ha (by omega) hx.2 (by omega)]
   simp only [Option.bind_some]
   rw [if_pos (by omega), spec_trPlace_eq a _ _ t ha (by omega) hv0.2 (by omega)]
   simp only [Option.bind_some]
   rw [ih k (i + 1) _ (by omega) (by omega)]
   have iff1 : (((l[i].f0 + l[i].f1 * t) % a == ((rd_T45 l 0).f0 + (rd_T45 l 0).f1 * t) % a) = true ∧ ∀ x ∈ l.drop (i + 1), farP x t % a = farP (rd_T45 l 0) t % a) ↔ (True ∧ ∀ x ∈ l[i] :: l.drop (i + 1), farP x t % a = farP (rd_T45 l 0) t % a) := by
    rw [List.forall_mem_cons, beq_iff_eq]
    exact ⟨fun z => ⟨trivial, z⟩, fun z => z.2⟩
   by_cases z : True ∧ ∀ x ∈ l[i] :: l.drop (i + 1), farP x t % a = farP (rd_T45 l 0) t % a
   ·
    rw [if_pos (iff1.mpr z), if_pos z]
   ·
    rw [if_neg (fun y => z (iff1.mp y)), if_neg z]
theorem spec_all_l0 (a : Int) (l : List S45) (h : areRun a l) (d : Nat) : ∀ (k : Nat) (t : Int), t + d = a / gf a l → 20 * d + 400 < k → 0 ≤ t →
  spec_AllRunnersTogether.l0 k a l t = some (first (fun t => decide (tog a l t)) d t) := by
 have g := h
 obtain ⟨ha, hl, hv⟩ := g
 have gr := gf_range l a (by omega)
 have p1 := Int.ediv_le_self (gf a l) (show 0 ≤ a by omega)
 induction d with
 | zero =>
  intro k t hd hk ht
  obtain ⟨k, rfl⟩ : ∃ m, k = m + 1 := ⟨k - 1, by omega⟩
  simp only [spec_AllRunnersTogether.l0]
  rw [spec_trPeriod_eq a ha l hl.2 (fun x hx => (hv x hx).2) k (by omega)]
  simp only [Option.bind_some]
  rw [if_neg (by omega)]
  rfl
 | succ d ih =>
  intro k t hd hk ht
  obtain ⟨k, rfl⟩ : ∃ m, k = m + 1 := ⟨k - 1, by omega⟩
  simp only [spec_AllRunnersTogether.l0]
  rw [spec_trPeriod_eq a ha l hl.2 (fun x hx => (hv x hx).2) k (by omega)]
  simp only [Option.bind_some]
  rw [if_pos (by omega)]
  have := spec_all_l1 a l h t (by omega) l.length k 0 true (by omega) (by omega)
  rw [List.drop_zero] at this
  refine Eq.trans this ?_
  show _ = some (if decide (tog a l t) = true then (t, true) else first _ d (t + 1))
  by_cases z : tog a l t
  ·
   rw [if_pos ⟨rfl, z⟩, decide_eq_true z, if_pos rfl]
  ·
   rw [if_neg (fun y => z y.2), decide_eq_false z, if_neg Bool.false_ne_true]
   exact ih _ (t + 1) (by omega) (by omega) (by omega)
theorem impl_all_l0 (a : Int) (l : List S45) (h : areRun a l) (d : Nat) : ∀ (k : Nat) (t : Int), t + d = a → d < k → 0 ≤ t →
  impl_AllRunnersTogether.l0 k a l a t = some (first (fun t => decide (tog a l t)) d t) := by
 have ha := h.1
 induction d with
 | zero =>
  intro k t hd hk ht
  obtain ⟨k, rfl⟩ : ∃ m, k = m + 1 := ⟨k - 1, by omega⟩
  simp only [impl_AllRunnersTogether.l0]
  rw [if_neg (by omega)]
  rfl
 | succ d ih =>
  intro k t hd hk ht
  obtain ⟨k, rfl⟩ : ∃ m, k = m + 1 := ⟨k - 1, by omega⟩
  simp only [impl_AllRunnersTogether.l0]
  rw [if_pos (by omega), impl_areTogether_eq a t l h (by omega)]
  simp only [Option.bind_some]
  show _ = some (if decide (tog a l t) = true then (t, true) else first _ d (t + 1))
  by_cases z : tog a l t
  ·
   rw [decide_eq_true z, if_pos rfl, if_pos rfl]
  ·
   rw [decide_eq_false z, if_neg Bool.false_ne_true, if_neg Bool.false_ne_true, w64 (x := t + 1) (by omega)]
   exact ih k (t + 1) (by omega) (by omega) (by omega)
theorem mem_mt (c : Int → Bool) (x : Int) (d : Nat) : ∀ t, x ∈ mt c d t ↔ t ≤ x ∧ x < t + d ∧ c x = true := by
 induction d with
 | zero =>
  intro t
  constructor
  ·
   intro h; cases h
  ·
   rintro ⟨h1, h2, _⟩; omega
 | succ d ih =>
  intro t
  unfold mt
  rw [List.mem_append, ih]
  constructor
  ·
   rintro (h | ⟨h1, h2, h3⟩)
   ·
    by_cases z : c t = true
    ·
     rw [if_pos z, List.mem_singleton] at h
     subst h
     exact ⟨Int.le_refl x, by omega, z⟩
    ·
     rw [if_neg z] at h; cases h
   ·
    exact ⟨by omega, by omega, h3⟩
  ·
   rintro ⟨h1, h2, h3⟩
   by_cases z : x = t
   ·
    subst z
    rw [if_pos h3, List.mem_singleton]
    exact .inl rfl
   ·
    exact .inr ⟨by omega, by omega, h3⟩
theorem mt_inc (c : Int → Bool) (d : Nat) : ∀ t, (mt c d t).Pairwise (· < ·) := by
 induction d with
 | zero => exact fun _ => List.Pairwise.nil
 | succ d ih =>
  intro t
  unfold mt
  refine List.pairwise_append.mpr ⟨by split <;> simp, ih _, fun x hx y hy => ?_⟩
  have h1 := (mem_mt c y d (t + 1)).mp hy
  by_cases z : c t = true
  ·
   rw [if_pos z, List.mem_singleton] at hx
   omega
  ·
   rw [if_neg z] at hx; cases hx
/-- the first of a rising list is its least -/
theorem head_least (l : List Int) (hp : l.Pairwise (· < ·)) (x : Int) (hx : x ∈ l) (h : ∀ y ∈ l, x ≤ y) : rd l 0 = x := by
 cases l with
 | nil => cases hx
 | cons y r =>
  have e : rd (y :: r) 0 = y := rfl
  rw [e]
  rcases List.mem_cons.mp hx with rfl | hx
  ·
   rfl
  ·
   have h1 := (List.pairwise_cons.mp hp).1 x hx
   have h2 := h y List.mem_cons_self
   omega
theorem first_spec (C : Int → Bool) (d : Nat) : ∀ t, ((first C d t).2 = true → t ≤ (first C d t).1 ∧ (first C d t).1 < t + d ∧ C (first C d t).1 = true ∧ ∀ y, t ≤ y → y < (first C d t).1 → C y = false) ∧ ((first C d t).2 = false → (first C d t).1 = 0 ∧ ∀ y, t ≤ y → y < t + d → C y = false) := by
 induction d with
 | zero =>
  intro t
  unfold first
  exact ⟨fun h => absurd h Bool.false_ne_true, fun _ => ⟨rfl, fun y h1 h2 => by omega⟩⟩
 | succ d ih =>
  intro t
  unfold first
  by_cases z : C t = true
  ·
   rw [if_pos z]
   exact ⟨fun _ => ⟨Int.le_refl t, by simp only; omega, z, fun y h1 h2 => by simp only at h2; omega⟩, fun h => absurd h (by simp)⟩
  ·
   rw [if_neg z]
   obtain ⟨i1, i2⟩ := ih (t + 1)
   have zf : C t = false := by simpa using z
   refine ⟨fun h => ?_, fun h => ?_⟩
   ·
    obtain ⟨h1, h2, h3, h4⟩ := i1 h
    refine ⟨by omega, by omega, h3, fun y y1 y2 => ?_⟩
    by_cases q : y = t
    ·
     rw [q]; exact zf
    ·
     exact h4 y (by omega) y2
   ·
    obtain ⟨h1, h2⟩ := i2 h
    refine ⟨h1, fun y y1 y2 => ?_⟩
    by_cases q : y = t
    ·
     rw [q]; exact zf
    ·
     exact h2 y (by omega) (by omega)
/-- both at one place -/
def cc (a s v t u : Int) : Int → Bool := fun x => decide ((s + v * x) % a = (t + u * x) % a)
def ff (a s v : Int) : Int → Int := fun x => (s + v * x) % a
theorem ff_back (a s v p x : Int) (h : a ∣ v * p) : ff a s v (x + p) = ff a s v x := by
 obtain ⟨m, hm⟩ := h
 unfold ff
 rw [Int.mul_add, hm, ← Int.add_assoc, Int.add_mul_emod_self_left]
theorem ff_mod (a s v p x : Int) (h : a ∣ v * p) : ff a s v (x % p) = ff a s v x := by
 have e := Int.emod_add_mul_ediv x p
 have e2 : ff a s v x = ff a s v (x % p + p * (x / p)) := by rw [e]
 rw [e2]
 exact (ff_back a s v (p * (x / p)) (x % p) (by rw [← Int.mul_assoc]; exact Int.dvd_trans h (Int.dvd_mul_right _ _))).symm
theorem cc_ff (a s v t u x : Int) : cc a s v t u x = decide (ff a s v x = ff a t u x) := rfl
theorem cc_mod (a s v t u p x : Int) (h1 : a ∣ v * p) (h2 : a ∣ u * p) : cc a s v t u (x % p) = cc a s v t u x := by
 rw [cc_ff, cc_ff, ff_mod a s v p x h1, ff_mod a t u p x h2]
theorem dvd_self (a v : Int) : a ∣ v * a := Int.dvd_mul_left _ _
def firstOf (a s v t u : Int) : Int × Bool := first (cc a s v t u) a.toNat 0
def placesOf (a s v t u : Int) : List Int := marked (mk (cc a s v t u) (ff a s v) a.toNat 0 (List.replicate a.toNat false)) a.toNat 0
def timesOf (a s v t u n : Int) : List Int := mt (cc a s v t u) (n + 1).toNat 0
theorem mem_places (a s v t u : Int) (ha : 2 ≤ a ∧ a ≤ 1000) (x : Int) : x ∈ placesOf a s v t u ↔ ∃ y, 0 ≤ y ∧ y < a ∧ cc a s v t u y = true ∧ ff a s v y = x := by
 have key := places_alike a s v t u ha
 have e : placesOf a s v t u = marked (mk (fun x => decide ((s + v * x) % a = (t + u * x) % a)) (fun x => (s + v * x) % a) a.toNat 0 (List.replicate a.toNat false)) a.toNat 0 := rfl
 rw [e, mem_marked]
 have p1 : ∀ y, 0 ≤ (s + v * y) % a := fun y => Int.emod_nonneg _ (by omega)
 have p2 : ∀ y, (s + v * y) % a < a := fun y => Int.emod_lt_of_pos _ (by omega)
 have at_ : ∀ j : Nat, j < a.toNat → ((rdOf false (mk (fun x => decide ((s + v * x) % a = (t + u * x) % a)) (fun x => (s + v * x) % a) a.toNat 0 (List.replicate a.toNat false)) (j : Int) = true) ↔ ∃ y, 0 ≤ y ∧ y < 0 + (a.toNat : Int) ∧ decide ((s + v * y) % a = (t + u * y) % a) = true ∧ (s + v * y) % a = j) := by
  intro j hj
  unfold rdOf
  rw [Int.toNat_natCast, mk_get _ _ j a.toNat 0 _ (by rw [List.length_replicate]; exact hj) (fun y _ _ => p1 y)]
  constructor
  ·
   rintro (h | h)
   ·
    rw [List.getD_eq_getElem?_getD, List.getElem?_replicate, if_pos hj] at h
    cases h
   ·
    exact h
  ·
   exact fun h => .inr h
 constructor
 ·
  rintro ⟨h1, h2, h3⟩
  obtain ⟨j, rfl⟩ := Int.eq_ofNat_of_zero_le h1
  obtain ⟨y, y1, y2, y3, y4⟩ := (at_ j (by omega)).mp h3
  exact ⟨y, y1, by omega, y3, y4⟩
 ·
  rintro ⟨y, h1, h2, h3, h4⟩
  have q1 := p1 y
  have q2 := p2 y
  have h4' : (s + v * y) % a = x := h4
  obtain ⟨j, rfl⟩ := Int.eq_ofNat_of_zero_le (show 0 ≤ x by omega)
  exact ⟨by omega, by omega, (at_ j (by omega)).mpr ⟨y, h1, by omega, h3, h4⟩⟩
theorem mem_times (a s v t u n x : Int) (hn : 0 ≤ n) : x ∈ timesOf a s v t u n ↔ 0 ≤ x ∧ x ≤ n ∧ cc a s v t u x = true := by
 unfold timesOf
 rw [mem_mt]
 constructor
 ·
  rintro ⟨h1, h2, h3⟩
  exact ⟨h1, by omega, h3⟩
 ·
  rintro ⟨h1, h2, h3⟩
  exact ⟨h1, by omega, h3⟩
/-- every meeting is one within the first lap of time -/
theorem meet_mod (a s v t u x : Int) (ha : 2 ≤ a) (h : cc a s v t u x = true) : 0 ≤ x % a ∧ x % a < a ∧ cc a s v t u (x % a) = true ∧ ff a s v (x % a) = ff a s v x :=
 ⟨Int.emod_nonneg _ (by omega), Int.emod_lt_of_pos _ (by omega), by rw [cc_mod a s v t u a x (dvd_self a v) (dvd_self a u)]; exact h, ff_mod a s v a x (dvd_self a v)⟩
theorem first_found (a s v t u : Int) (ha : 2 ≤ a ∧ a ≤ 1000) : ((firstOf a s v t u).2 = true ↔ ∃ x, 0 ≤ x ∧ cc a s v t u x = true) := by
 obtain ⟨h1, h2⟩ := first_spec (cc a s v t u) a.toNat 0
 constructor
 ·
  intro h
  obtain ⟨g1, g2, g3, g4⟩ := h1 h
  exact ⟨_, g1, g3⟩
 ·
  rintro ⟨x, hx, hc⟩
  cases e : (firstOf a s v t u).2 with
  | true => rfl
  | false =>
   have m := meet_mod a s v t u x ha.1 hc
   have := (h2 e).2 (x % a) m.1 (by omega)
   rw [m.2.2.1] at this
   cases this
/-- what the first time, the times and the places have to do with one another -/
theorem times_first (a s v t u n : Int) (ha : 2 ≤ a ∧ a ≤ 1000) (hn : 0 ≤ n) (h : timesOf a s v t u n ≠ []) : (firstOf a s v t u).2 = true ∧ rd (timesOf a s v t u n) 0 = (firstOf a s v t u).1 := by
 obtain ⟨x, r, hx⟩ := List.exists_cons_of_ne_nil h
 have hm : x ∈ timesOf a s v t u n := by rw [hx]; exact List.mem_cons_self
 obtain ⟨x0, x1, x2⟩ := (mem_times a s v t u n x hn).mp hm
 have hf := (first_found a s v t u ha).mpr ⟨x, x0, x2⟩
 obtain ⟨h1, _⟩ := first_spec (cc a s v t u) a.toNat 0
 obtain ⟨g1, g2, g3, g4⟩ := h1 hf
 have le : ∀ y, 0 ≤ y → cc a s v t u y = true → (firstOf a s v t u).1 ≤ y := by
  intro y hy hc
  rcases Int.lt_or_le y (firstOf a s v t u).1 with z | z
  ·
   have := g4 y hy z
   rw [hc] at this
   cases this
  ·
   exact z
 refine ⟨hf, head_least _ (mt_inc _ _ _) _ ((mem_times a s v t u n _ hn).mpr ⟨g1, ?_, g3⟩) fun y hy => ?_⟩
 ·
  have := le x x0 x2
  have e : (first (cc a s v t u) a.toNat 0).1 = (firstOf a s v t u).1 := rfl
  omega
 ·
  obtain ⟨y0, _, y2⟩ := (mem_times a s v t u n y hn).mp hy
  exact le y y0 y2
theorem first_times (a s v t u n : Int) (hn : 0 ≤ n) (h : (firstOf a s v t u).2 = true) (hle : (firstOf a s v t u).1 ≤ n) : timesOf a s v t u n ≠ [] := by
 obtain ⟨h1, _⟩ := first_spec (cc a s v t u) a.toNat 0
 obtain ⟨g1, g2, g3, g4⟩ := h1 h
 intro e
 have := (mem_times a s v t u n (firstOf a s v t u).1 hn).mpr ⟨g1, hle, g3⟩
 rw [e] at this
 cases this
theorem first_place (a s v t u : Int) (ha : 2 ≤ a ∧ a ≤ 1000) (h : (firstOf a s v t u).2 = true) : ff a s v (firstOf a s v t u).1 ∈ placesOf a s v t u := by
 obtain ⟨h1, _⟩ := first_spec (cc a s v t u) a.toNat 0
 obtain ⟨g1, g2, g3, g4⟩ := h1 h
 refine (mem_places a s v t u ha _).mpr ⟨_, g1, ?_, g3, rfl⟩
 have e : (first (cc a s v t u) a.toNat 0).1 = (firstOf a s v t u).1 := rfl
 omega
theorem places_first (a s v t u : Int) (ha : 2 ≤ a ∧ a ≤ 1000) : (placesOf a s v t u ≠ [] ↔ (firstOf a s v t u).2 = true) := by
 constructor
 ·
  intro h
  obtain ⟨x, r, hx⟩ := List.exists_cons_of_ne_nil h
  have hm : x ∈ placesOf a s v t u := by rw [hx]; exact List.mem_cons_self
  obtain ⟨y, y0, y1, y2, _⟩ := (mem_places a s v t u ha x).mp hm
  exact (first_found a s v t u ha).mpr ⟨y, y0, y2⟩
 ·
  intro h e
  have := first_place a s v t u ha h
  rw [e] at this
  cases this
theorem time_place (a s v t u x : Int) (ha : 2 ≤ a ∧ a ≤ 1000) (h : cc a s v t u x = true) : ff a s v x ∈ placesOf a s v t u := by
 have m := meet_mod a s v t u x ha.1 h
 exact (mem_places a s v t u ha _).mpr ⟨_, m.1, m.2.1, m.2.2.1, m.2.2.2⟩
theorem places_inc (a s v t u : Int) : (placesOf a s v t u).Pairwise (· < ·) := marked_inc _ _ _
theorem places_len (a s v t u : Int) : (placesOf a s v t u).length ≤ a.toNat := marked_length _ _ _
theorem times_len (a s v t u n : Int) : (timesOf a s v t u n).length ≤ (n + 1).toNat := mt_length _ _ _
theorem times_both (a s v t u n : Int) (k : Nat) (hk : 20000 < k) : spec_MeetingTimes.f k a s v t u n = some (if two a s v t u ∧ (0 ≤ n ∧ n ≤ 10000) then (timesOf a s v t u n, true) else ([], false)) ∧ impl_MeetingTimes.f k a s v t u n = some (if two a s v t u ∧ (0 ≤ n ∧ n ≤ 10000) then (timesOf a s v t u n, true) else ([], false)) := by
 obtain ⟨k, rfl⟩ : ∃ m, k = m + 1 := ⟨k - 1, by omega⟩
 have e3 := spec_l1In_eq n 0 10000
 have e4 := impl_within_eq n 0 10000
 by_cases h : two a s v t u
 ·
  by_cases hn : 0 ≤ n ∧ n ≤ 10000
  ·
   rw [if_pos ⟨h, hn⟩]
   have g := h
   obtain ⟨⟨ha, h1⟩, _, h2⟩ := g
   constructor
   ·
    simp only [spec_MeetingTimes.f, trTwo_two, decide_eq_true h, e3, decide_eq_true hn, Option.bind_some, if_true, Bool.not_true, spec_MeetingTimes.j0, Bool.false_eq_true, if_false]
    exact spec_times_l0 a s v t u ha h1 h2 n hn (n + 1).toNat k 0 [] (by omega) (by omega) (Int.le_refl 0) (Nat.le_refl 0)
   ·
    simp only [impl_MeetingTimes.f, onTrack_two, decide_eq_true h, e4, decide_eq_true hn, Option.bind_some, if_true, Bool.not_true, impl_MeetingTimes.j0, Bool.false_eq_true, if_false]
    rw [w64 (x := n + 1) (by omega)]
    exact impl_times_l0 a s v t u ((areRun_two a s v t u).mpr h) n hn (n + 1).toNat k 0 [] (by omega) (by omega) (Int.le_refl 0) (Nat.le_refl 0)
  ·
   rw [if_neg (fun z => hn z.2)]
   constructor
   ·
    simp only [spec_MeetingTimes.f, trTwo_two, decide_eq_true h, e3, decide_eq_false hn, Option.bind_some, if_true, Bool.not_false, spec_MeetingTimes.j0]
   ·
    simp only [impl_MeetingTimes.f, onTrack_two, decide_eq_true h, e4, decide_eq_false hn, Option.bind_some, if_true, Bool.not_false, impl_MeetingTimes.j0]
 ·
  rw [if_neg (fun z => h z.1)]
  constructor
  ·
   simp only [spec_MeetingTimes.f, trTwo_two, decide_eq_false h, Option.bind_some, Bool.false_eq_true, if_false, spec_MeetingTimes.j0, if_true]
  ·
   simp only [impl_MeetingTimes.f, onTrack_two, decide_eq_false h, Option.bind_some, Bool.false_eq_true, if_false, impl_MeetingTimes.j0, if_true]
theorem places_both (a s v t u : Int) (k : Nat) (hk : 20000 < k) : spec_MeetingPlaces.f k a s v t u = some (if two a s v t u then (placesOf a s v t u, true) else ([], false)) ∧ impl_MeetingPlaces.f k a s v t u = some (if two a s v t u then (placesOf a s v t u, true) else ([], false)) := by
 by_cases h : two a s v t u
 ·
  rw [if_pos h]
  have g := h
  obtain ⟨⟨ha, h1⟩, _, h2⟩ := g
  constructor
  ·
   simp only [spec_MeetingPlaces.f, trTwo_two, decide_eq_true h, Option.bind_some, if_true]
   rw [if_pos (by omega), if_pos (by omega)]
   exact spec_places_l0 a s v t u ha h1 h2 a.toNat k 0 _ (by omega) (by omega) (Int.le_refl 0) (by rw [List.length_replicate]; omega)
  ·
   simp only [impl_MeetingPlaces.f, onTrack_two, decide_eq_true h, Option.bind_some, if_true]
   rw [impl_places_l0 a s v t u ((areRun_two a s v t u).mpr h) ha h1 a.toNat k 0 [] (by omega) (by omega) (Int.le_refl 0) (Nat.le_refl 0), List.nil_append, places_alike a s v t u ha]
   rfl
 ·
  rw [if_neg h]
  constructor
  ·
   simp only [spec_MeetingPlaces.f, trTwo_two, decide_eq_false h, Option.bind_some, Bool.false_eq_true, if_false]
  ·
   simp only [impl_MeetingPlaces.f, onTrack_two, decide_eq_false h, Option.bind_some, Bool.false_eq_true, if_false]
def overOf (a s v t u n : Int) : Int := mx 0 ((s + v * n - (t + u * n) - 1) / a - (s - t - 1) / a)
theorem over_both (a s v t u n : Int) (k : Nat) (hk : 1 < k) : spec_CountOvertakings.f k a s v t u n = some (if two a s v t u ∧ (0 ≤ n ∧ n ≤ 1000000) then (overOf a s v t u n, true) else (0, false)) ∧ impl_CountOvertakings.f k a s v t u n = some (if two a s v t u ∧ (0 ≤ n ∧ n ≤ 1000000) then (overOf a s v t u n, true) else (0, false)) := by
 obtain ⟨k, rfl⟩ : ∃ m, k = m + 1 := ⟨k - 1, by omega⟩
 by_cases h : two a s v t u
 ·
  by_cases hn : 0 ≤ n ∧ n ≤ 1000000
  ·
   rw [if_pos ⟨h, hn⟩]
   have es : spec_CountOvertakings.f (k + 1) a s v t u n = spec_CountOvertakings.j0 (k + 1) a n false s v t u := by
    simp only [spec_CountOvertakings.f, trTwo_two, spec_trTime_eq, Option.bind_some, decide_eq_true h, hn, and_self, decide_true, if_true, Bool.not_true]
   have ei : impl_CountOvertakings.f (k + 1) a s v t u n = impl_CountOvertakings.j0 (k + 1) a n false s v t u := by
    simp only [impl_CountOvertakings.f, onTrack_two, impl_isRunTime_eq, Option.bind_some, decide_eq_true h, hn, and_self, decide_true, if_true, Bool.not_true]
   obtain ⟨⟨ha, hr1⟩, _, hr2⟩ := h
   unfold isRun at hr1 hr2
   obtain ⟨f1, g1, _⟩ := far_spec s v 0 (by omega) hr1.2 (by omega)
   obtain ⟨f2, g2, _⟩ := far_spec t u 0 (by omega) hr2.2 (by omega)
   obtain ⟨f3, g3, b3, b3'⟩ := far_spec s v n (by omega) hr1.2 hn
   obtain ⟨f4, g4, b4, b4'⟩ := far_spec t u n (by omega) hr2.2 hn
   rw [Int.mul_zero, Int.add_zero] at f1 g1 f2 g2
   obtain ⟨d1, e1⟩ := down_same (s - t - 1) a ha (by omega)
   obtain ⟨d2, e2⟩ := down_same (s + v * n - (t + u * n) - 1) a ha (by omega)
   have lo1 := ediv_range (s - t - 1) a (by omega) (by omega)
   have lo2 := ediv_range (s + v * n - (t + u * n) - 1) a (by omega) (by omega)
   have vn : v ≤ u → v * n ≤ u * n := fun z => Int.mul_le_mul_of_nonneg_right z hn.1
   have un : u ≤ v → u * n ≤ v * n := fun z => Int.mul_le_mul_of_nonneg_right z hn.1
   constructor
   ·
    rw [es]
    by_cases z : v ≤ u
    ·
     simp only [spec_CountOvertakings.j0, Bool.false_eq_true, if_false, z, if_true]
     have := vn z
     have := Int.ediv_le_ediv (show 0 < a by omega) (show s + v * n - (t + u * n) - 1 ≤ s - t - 1 by omega)
     unfold overOf mx
     split <;> simp only [Option.some.injEq, Prod.mk.injEq, and_true] <;> omega
    ·
     simp only [spec_CountOvertakings.j0, Bool.false_eq_true, if_false, z, f1, f2, f3, f4, Option.bind_some]
     rw [w64 (x := s - t) (by omega), w64 (x := s - t - 1) (by omega), w64 (x := s + v * n - (t + u * n)) (by omega), w64 (x := s + v * n - (t + u * n) - 1) (by omega), d2]
     simp only [Option.bind_some]
     rw [d1]
     simp only [Option.bind_some]
     have := un (by omega)
     have := Int.ediv_le_ediv (show 0 < a by omega) (show s - t - 1 ≤ s + v * n - (t + u * n) - 1 by omega)
     rw [w64 (by omega)]
     unfold overOf mx
     split <;> simp only [Option.some.injEq, Prod.mk.injEq, and_true] <;> omega
   ·
    rw [ei]
    simp only [impl_CountOvertakings.j0, Bool.false_eq_true, if_false, g1, g2, g3, g4, Option.bind_some]
    rw [w64 (x := s - t) (by omega), w64 (x := s - t - 1) (by omega), w64 (x := s + v * n - (t + u * n)) (by omega), w64 (x := s + v * n - (t + u * n) - 1) (by omega), e2]
    simp only [Option.bind_some]
    rw [e1]
    simp only [Option.bind_some]
    rw [w64 (by omega)]
    rfl
  ·
   rw [if_neg (fun z => hn z.2)]
   constructor
   ·
    simp only [spec_CountOvertakings.f, trTwo_two, spec_trTime_eq, Option.bind_some, decide_eq_true h, hn, decide_false, if_true, Bool.not_false, spec_CountOvertakings.j0]
   ·
    simp only [impl_CountOvertakings.f, onTrack_two, impl_isRunTime_eq, Option.bind_some, decide_eq_true h, hn, decide_false, if_true, Bool.not_false, impl_CountOvertakings.j0]
 ·
  rw [if_neg (fun z => h z.1)]
  constructor
  ·
   simp only [spec_CountOvertakings.f, trTwo_two, Option.bind_some, decide_eq_false h, Bool.false_eq_true, if_false, spec_CountOvertakings.j0, if_true]
  ·
   simp only [impl_CountOvertakings.f, onTrack_two, Option.bind_some, decide_eq_false h, Bool.false_eq_true, if_false, impl_CountOvertakings.j0, if_true]
def fmOf (a s v : Int) (r : Int × Bool) : Int × Int × Bool := if r.2 = true then (r.1, ff a s v r.1, true) else (0, 0, false)
theorem spec_fm_l0 (a s v t u : Int) (h : two a s v t u) (d : Nat) : ∀ (k : Nat) (x : Int), x + d = a → d < k → 0 ≤ x → spec_FirstMeet.l0 k a x s v t u = some (fmOf a s v (first (cc a s v t u) d x)) := by
 obtain ⟨⟨ha, g1⟩, _, g2⟩ := h
 unfold isRun at g1 g2
 induction d with
 | zero =>
  intro k x hd hk hx
  obtain ⟨k, rfl⟩ : ∃ m, k = m + 1 := ⟨k - 1, by omega⟩
  simp only [spec_FirstMeet.l0]
  rw [if_neg (by omega)]
  rfl
 | succ d ih =>
  intro k x hd hk hx
  obtain ⟨k, rfl⟩ : ∃ m, k = m + 1 := ⟨k - 1, by omega⟩
  simp only [spec_FirstMeet.l0]
  rw [if_pos (by omega), spec_trPlace_eq a s v x ha (by omega) g1.2 (by omega)]
  simp only [Option.bind_some]
  rw [spec_trPlace_eq a t u x ha (by omega) g2.2 (by omega)]
  simp only [Option.bind_some]
  show _ = some (fmOf a s v (if cc a s v t u x = true then (x, true) else first (cc a s v t u) d (x + 1)))
  by_cases z : (s + v * x) % a = (t + u * x) % a
  ·
   rw [if_pos z, if_pos (show cc a s v t u x = true from decide_eq_true z)]
   rfl
  ·
   rw [if_neg z, if_neg (show ¬ cc a s v t u x = true from fun q => z (of_decide_eq_true q)), w64 (x := x + 1) (by omega)]
   exact ih k (x + 1) (by omega) (by omega) (by omega)
theorem impl_fm_l0 (a s v t u : Int) (h : two a s v t u) (d : Nat) : ∀ (k : Nat) (x : Int), x + d = a → d < k → 0 ≤ x → impl_FirstMeet.l0 k a a x s v t u = some (fmOf a s v (first (cc a s v t u) d x)) := by
 have hr := (areRun_two a s v t u).mpr h
 have h0 := h
 obtain ⟨⟨ha, g1⟩, _, g2⟩ := h
 unfold isRun at g1 g2
 induction d with
 | zero =>
  intro k x hd hk hx
  obtain ⟨k, rfl⟩ : ∃ m, k = m + 1 := ⟨k - 1, by omega⟩
  simp only [impl_FirstMeet.l0]
  rw [if_neg (by omega)]
  rfl
 | succ d ih =>
  intro k x hd hk hx
  obtain ⟨k, rfl⟩ : ∃ m, k = m + 1 := ⟨k - 1, by omega⟩
  have p := far_range s v x (by omega) g1.2 (by omega)
  have iff1 : tog a [⟨s, v⟩, ⟨t, u⟩] x ↔ (s + v * x) % a = (t + u * x) % a := by
   unfold tog farP
   simp [rd_T45]
   exact eq_comm
  simp only [impl_FirstMeet.l0]
  rw [if_pos (by omega), impl_areTogether_eq a x _ hr (by omega)]
  simp only [Option.bind_some]
  show _ = some (fmOf a s v (if cc a s v t u x = true then (x, true) else first (cc a s v t u) d (x + 1)))
  by_cases z : (s + v * x) % a = (t + u * x) % a
  ·
   rw [decide_eq_true (iff1.mpr z), if_pos rfl, if_pos (show cc a s v t u x = true from decide_eq_true z), impl_farAt_eq s v x (by omega) g1.2 (by omega)]
   simp only [Option.bind_some]
   rw [if_neg (by omega), Int.tmod_eq_emod_of_nonneg p.1]
   rfl
  ·
   rw [decide_eq_false (fun q => z (iff1.mp q)), if_neg Bool.false_ne_true, if_neg (show ¬ cc a s v t u x = true from fun q => z (of_decide_eq_true q)), w64 (x := x + 1) (by omega)]
   exact ih k (x + 1) (by omega) (by omega) (by omega)
theorem first_both (a s v t u : Int) (k : Nat) (hk : 2000 < k) : spec_FirstMeet.f k a s v t u = some (if two a s v t u then fmOf a s v (firstOf a s v t u) else (0, 0, false)) ∧ impl_FirstMeet.f k a s v t u = some (if two a s v t u then fmOf a s v (firstOf a s v t u) else (0, 0, false)) := by
 by_cases h : two a s v t u
 ·
  rw [if_pos h]
  have ha := h.1.1
  constructor
  ·
   simp only [spec_FirstMeet.f, trTwo_two, decide_eq_true h, Option.bind_some, if_true]
   exact spec_fm_l0 a s v t u h a.toNat k 0 (by omega) (by omega) (Int.le_refl 0)
  ·
   simp only [impl_FirstMeet.f, onTrack_two, decide_eq_true h, Option.bind_some, if_true]
   exact impl_fm_l0 a s v t u h a.toNat k 0 (by omega) (by omega) (Int.le_refl 0)
 ·
  rw [if_neg h]
  constructor
  ·
   simp only [spec_FirstMeet.f, trTwo_two, decide_eq_false h, Option.bind_some, Bool.false_eq_true, if_false]
  ·
   simp only [impl_FirstMeet.f, onTrack_two, decide_eq_false h, Option.bind_some, Bool.false_eq_true, if_false]
def allOf (b : Int) (l : List S45) : Int × Bool := first (fun t => decide (tog b l t)) b.toNat 0
def perOf (b : Int) (l : List S45) : Int := b / gf b l
theorem per_range (b : Int) (l : List S45) (h : areRun b l) : 1 ≤ perOf b l ∧ perOf b l ≤ b ∧ perOf b l * gf b l = b := by
 have ha := h.1
 have gr := gf_range l b (by omega)
 have d := (gf_dvd l b).1
 have e := Int.ediv_mul_cancel d
 unfold perOf
 refine ⟨?_, Int.ediv_le_self _ (by omega), e⟩
 apply Int.le_ediv_of_mul_le gr.1
 omega
theorem all_first (b : Int) (l : List S45) (h : areRun b l) : first (fun t => decide (tog b l t)) (perOf b l).toNat 0 = allOf b l := by
 have ha := h.1
 have hl := h.2.1
 have p := per_range b l h
 refine first_period _ _ _ (by omega) (by omega) fun t _ => ?_
 have e : ((perOf b l).toNat : Int) = b / gf b l := by
  show ((b / gf b l).toNat : Int) = _
  have := p.1
  unfold perOf at this
  omega
 rw [e]
 exact decide_eq_decide.mpr (tog_period b l (by omega) t)
theorem all_spec (b : Int) (l : List S45) (k : Nat) (hl : l.length ≤ 10000) (hk : 100001 < k) : spec_AllRunnersTogether.f k b l = some (if areRun b l then allOf b l else (0, false)) := by
 unfold spec_AllRunnersTogether.f
 rw [spec_trList_eq b l (by omega) k (by omega)]
 simp only [Option.bind_some]
 by_cases h : areRun b l
 ·
  have p := per_range b l h
  have := h.1
  rw [decide_eq_true h, if_pos rfl, if_pos h, spec_all_l0 b l h (perOf b l).toNat k 0 (by unfold perOf at *; omega) (by omega) (Int.le_refl 0), all_first b l h]
 ·
  rw [decide_eq_false h, if_neg Bool.false_ne_true, if_neg h]
theorem all_impl (b : Int) (l : List S45) (k : Nat) (hk : 100001 < k) : impl_AllRunnersTogether.f k b l = some (if areRun b l then allOf b l else (0, false)) := by
 unfold impl_AllRunnersTogether.f
 rw [impl_AreRunners_eq]
 simp only [Option.bind_some]
 by_cases h : areRun b l
 ·
  have := h.1
  rw [decide_eq_true h, if_pos rfl, if_pos h]
  exact impl_all_l0 b l h b.toNat k 0 (by omega) (by omega) (Int.le_refl 0)
 ·
  rw [decide_eq_false h, if_neg Bool.false_ne_true, if_neg h]
theorem per_spec (b : Int) (l : List S45) (k : Nat) (hl : l.length ≤ 10000) (hk : 100001 < k) : spec_RunPeriod.f k b l = some (if areRun b l then (perOf b l, true) else (0, false)) := by
 unfold spec_RunPeriod.f
 rw [spec_trList_eq b l (by omega) k (by omega)]
 simp only [Option.bind_some]
 by_cases h : areRun b l
 ·
  rw [decide_eq_true h, if_pos rfl, if_pos h, spec_trPeriod_eq b h.1 l h.2.1.2 (fun x hx => (h.2.2 x hx).2) k (by omega)]
  rfl
 ·
  rw [decide_eq_false h, if_neg Bool.false_ne_true, if_neg h]
theorem per_impl (b : Int) (l : List S45) (k : Nat) (hk : 100001 < k) : impl_RunPeriod.f k b l = some (if areRun b l then (perOf b l, true) else (0, false)) := by
 unfold impl_RunPeriod.f
 rw [impl_AreRunners_eq]
 simp only [Option.bind_some]
 by_cases h : areRun b l
 ·
  rw [decide_eq_true h, if_pos rfl, if_pos h, impl_runPeriod_eq b h.1 l h.2.1.2 (fun x hx => (h.2.2 x hx).2) k (by omega)]
  rfl
 ·
  rw [decide_eq_false h, if_neg Bool.false_ne_true, if_neg h]
def bytes (c : List Int) : Prop := ∀ x ∈ c, (Lit.int .u8 x).wf = true
theorem byte_range {x : Int} (h : (Lit.int .u8 x).wf = true) : 0 ≤ x ∧ x ≤ 255 := by
 simp [Lit.wf, IntKind.min, IntKind.max, IntKind.bits, IntKind.signed] at h
 omega
theorem rd_byte (c : List Int) (hc : bytes c) (i : Int) (h0 : 0 ≤ i) (h1 : i < (c.length : Int)) : 0 ≤ rd c i ∧ rd c i ≤ 255 := by
 have hlt : i.toNat < c.length := by omega
 have e : rd c i = c[i.toNat] := by simp [rd, hlt]
 rw [e]
 exact byte_range (hc _ (List.getElem_mem hlt))
theorem bits_255 (x : Int) : 0 ≤ Go.bits .and .u64 x 255 ∧ Go.bits .and .u64 x 255 ≤ 255 := by
 have h : (BitVec.ofInt 64 x &&& 255#64).toNat ≤ 255 := by
  rw [BitVec.toNat_and]
  exact Nat.and_le_right
 have e : Go.bits .and .u64 x 255 = IntKind.u64.wrap ((BitVec.ofInt 64 x &&& 255#64).toNat : Int) := rfl
 rw [e]
 generalize (BitVec.ofInt 64 x &&& 255#64).toNat = n at *
 have e2 : IntKind.u64.wrap (n : Int) = (n : Int) := by
  simp [IntKind.wrap, IntKind.bits, IntKind.signed]
  omega
 rw [e2]
 omega
theorem next_ok (c : List Int) (hc : bytes c) (a s : Int) (ha : 0 ≤ a ∧ a ≤ 4000000000000000000) : ∃ r s', spec_l1Cur_next.f c a s = some (r, a + 1, s') ∧ 0 ≤ r ∧ r ≤ 255 := by
 have ew : wrap64 (a + 1) = a + 1 := w64 (by omega)
 unfold spec_l1Cur_next.f
 rw [ew]
 by_cases h : a < (c.length : Int)
 ·
  have rb := rd_byte c hc a ha.1 h
  have er : wrap64 (rd c a) = rd c a := w64 (by omega)
  rw [if_pos h, if_pos ha.1, if_pos (by omega), er]
  exact ⟨_, _, rfl, rb.1, rb.2⟩
 ·
  rw [if_neg h, if_neg (by omega)]
  have b := bits_255 ((IntKind.u64.wrap ((IntKind.u64.wrap ((IntKind.u64.wrap (s * 6364136223846793005)) + 0)) + 1442695040888963407)) / 1099511627776)
  refine ⟨_, _, rfl, ?_⟩
  rw [w64 (by omega)]
  exact b
theorem pick_ok (c : List Int) (hc : bytes c) (a s n : Int) (ha : 0 ≤ a ∧ a ≤ 4000000000000000000 - 2) : ∃ r a' s', spec_l1Cur_pick.f c a s n = some (r, a', s') ∧ 0 ≤ r ∧ (1 ≤ n → r < n) ∧ r ≤ 65535 ∧ a ≤ a' ∧ a' ≤ a + 2 := by
 unfold spec_l1Cur_pick.f
 by_cases h : n ≤ 1
 ·
  rw [if_pos h]
  exact ⟨_, _, _, rfl, by omega, by omega, by omega, by omega, by omega⟩
 ·
  rw [if_neg h]
  obtain ⟨r, s', e, r0, r1⟩ := next_ok c hc a s (by omega)
  rw [e]
  simp only [Option.bind_some]
  by_cases h2 : n > 200
  ·
   rw [if_pos h2]
   obtain ⟨q, s2, e2, q0, q1⟩ := next_ok c hc (a + 1) s' (by omega)
   rw [e2]
   simp only [Option.bind_some]
   rw [if_neg (by omega), w64 (x := r * 256) (by omega), w64 (x := r * 256 + q) (by omega), Int.tmod_eq_emod_of_nonneg (by omega)]
   have := Int.emod_nonneg (r * 256 + q) (show n ≠ 0 by omega)
   have := Int.emod_lt_of_pos (r * 256 + q) (show 0 < n by omega)
   have e3 := Int.emod_def (r * 256 + q) n
   have e4 := Int.mul_nonneg (show 0 ≤ n by omega) (Int.ediv_nonneg (show 0 ≤ r * 256 + q by omega) (show 0 ≤ n by omega))
   exact ⟨_, _, _, rfl, by omega, by omega, by omega, by omega, by omega⟩
  ·
   rw [if_neg h2, if_neg (by omega), Int.tmod_eq_emod_of_nonneg (by omega)]
   have := Int.emod_nonneg r (show n ≠ 0 by omega)
   have := Int.emod_lt_of_pos r (show 0 < n by omega)
   exact ⟨_, _, _, rfl, by omega, by omega, by omega, by omega, by omega⟩
theorem one_ok (c : List Int) (hc : bytes c) (a s n : Int) (ha : 0 ≤ a ∧ a ≤ 4000000000000000000 - 2) : ∃ r a' s', spec_l1Cur_one.f c a s n = some (r, a', s') ∧ a ≤ a' ∧ a' ≤ a + 2 := by
 obtain ⟨r, a', s', e, _, _, _, h⟩ := pick_ok c hc a s n ha
 unfold spec_l1Cur_one.f
 rw [e]
 exact ⟨_, _, _, rfl, h⟩
theorem among_ok (c : List Int) (hc : bytes c) (a s : Int) (l : List Int) (hl : 1 ≤ l.length ∧ l.length ≤ 1000000) (ha : 0 ≤ a ∧ a ≤ 4000000000000000000 - 2) : ∃ r a' s', spec_l1Cur_among.f c a s l = some (r, a', s') ∧ r ∈ l ∧ a ≤ a' ∧ a' ≤ a + 2 := by
 obtain ⟨r, a', s', e, r0, r1, _, h⟩ := pick_ok c hc a s (l.length : Int) ha
 have r2 := r1 (by omega)
 have hlt : r.toNat < l.length := by omega
 have er : rd l r = l[r.toNat] := by simp [rd, hlt]
 unfold spec_l1Cur_among.f
 rw [e]
 simp only [Option.bind_some]
 rw [if_pos r0, if_pos r2, er]
 exact ⟨_, _, _, rfl, List.getElem_mem hlt, h⟩
theorem lap_ok (c : List Int) (hc : bytes c) (a s : Int) (ha : 0 ≤ a ∧ a ≤ 4000000000000000000 - 4) : ∃ r a' s', spec_l1Cur_lap.f c a s = some (r, a', s') ∧ a ≤ a' ∧ a' ≤ a + 4 := by
 obtain ⟨r, a1, s1, e1, h1⟩ := one_ok c hc a s 10 (by omega)
 unfold spec_l1Cur_lap.f
 rw [e1]
 simp only [Option.bind_some]
 split
 ·
  obtain ⟨q, a2, s2, e2, _, h2⟩ := among_ok c hc a1 s1 [(-1), 0, 1, 2, 1000, 1001, 4611686018427387904] (by decide) (by omega)
  rw [e2]
  simp only [Option.bind_some]
  exact ⟨_, _, _, rfl, by omega, by omega⟩
 ·
  obtain ⟨q, a2, s2, e2, q0, q1, q2, h2⟩ := pick_ok c hc a1 s1 30 (by omega)
  rw [e2]
  simp only [Option.bind_some]
  exact ⟨_, _, _, rfl, by omega, by omega⟩
theorem runner_ok (c : List Int) (hc : bytes c) (a s n : Int) (ha : 0 ≤ a ∧ a ≤ 4000000000000000000 - 6) : ∃ r q a' s', spec_l1Cur_runner.f c a s n = some (r, q, a', s') ∧ a ≤ a' ∧ a' ≤ a + 6 := by
 obtain ⟨r, a1, s1, e1, h1⟩ := one_ok c hc a s 16 (by omega)
 unfold spec_l1Cur_runner.f
 rw [e1]
 simp only [Option.bind_some]
 split
 ·
  obtain ⟨q, a2, s2, e2, _, h2⟩ := among_ok c hc a1 s1 [(-1), 0, 1, 999, 1000, 4611686018427387904] (by decide) (by omega)
  rw [e2]
  simp only [Option.bind_some]
  obtain ⟨q3, a3, s3, e3, _, h3⟩ := among_ok c hc a2 s2 [(-1), 0, 1, 100, 101, 4611686018427387904] (by decide) (by omega)
  rw [e3]
  simp only [Option.bind_some]
  exact ⟨_, _, _, _, rfl, by omega, by omega⟩
 ·
  rw [spec_l1Most_eq]
  simp only [Option.bind_some]
  rw [spec_l1Least_eq]
  simp only [Option.bind_some]
  obtain ⟨q, a2, s2, e2, _, _, _, h2⟩ := pick_ok c hc a1 s1 (if 1000 < (if 1 > n then 1 else n) then 1000 else (if 1 > n then 1 else n)) (by omega)
  rw [e2]
  simp only [Option.bind_some]
  obtain ⟨q3, a3, s3, e3, _, _, _, h3⟩ := pick_ok c hc a2 s2 9 (by omega)
  rw [e3]
  simp only [Option.bind_some]
  exact ⟨_, _, _, _, rfl, by omega, by omega⟩
theorem twoRunners_ok (c : List Int) (hc : bytes c) (a s : Int) (ha : 0 ≤ a ∧ a ≤ 4000000000000000000 - 16) : ∃ r1 r2 r3 r4 r5 a' s', spec_l1Cur_twoRunners.f c a s = some (r1, r2, r3, r4, r5, a', s') ∧ a ≤ a' ∧ a' ≤ a + 16 := by
 obtain ⟨r, a1, s1, e1, h1⟩ := lap_ok c hc a s (by omega)
 obtain ⟨x2, y2, a2, s2, e2, h2⟩ := runner_ok c hc a1 s1 r (by omega)
 obtain ⟨x3, y3, a3, s3, e3, h3⟩ := runner_ok c hc a2 s2 r (by omega)
 unfold spec_l1Cur_twoRunners.f
 rw [e1]
 simp only [Option.bind_some]
 rw [e2]
 simp only [Option.bind_some]
 rw [e3]
 simp only [Option.bind_some]
 exact ⟨_, _, _, _, _, _, _, rfl, by omega, by omega⟩
theorem moment_ok (c : List Int) (hc : bytes c) (a s : Int) (ha : 0 ≤ a ∧ a ≤ 4000000000000000000 - 4) : ∃ r a' s', spec_l1Cur_moment.f c a s = some (r, a', s') ∧ a ≤ a' ∧ a' ≤ a + 4 := by
 obtain ⟨r, a1, s1, e1, h1⟩ := one_ok c hc a s 8 (by omega)
 unfold spec_l1Cur_moment.f
 rw [e1]
 simp only [Option.bind_some]
 split
 ·
  obtain ⟨q, a2, s2, e2, _, h2⟩ := among_ok c hc a1 s1 [(-1), 0, 1, 10000, 10001, 1000000, 1000001, 4611686018427387904] (by decide) (by omega)
  rw [e2]
  simp only [Option.bind_some]
  exact ⟨_, _, _, rfl, by omega, by omega⟩
 ·
  obtain ⟨q, a2, s2, e2, q0, q1, q2, h2⟩ := pick_ok c hc a1 s1 60 (by omega)
  rw [e2]
  simp only [Option.bind_some]
  exact ⟨_, _, _, rfl, by omega, by omega⟩
theorem leadBetween_ok (c : List Int) (hc : bytes c) : ∃ r1 r2 r3 r4 r5 r6, spec_DrawLeadBetween.f c = some (r1, r2, r3, r4, r5, r6) := by
 obtain ⟨r1, r2, r3, r4, r5, a1, s1, e1, h1⟩ := twoRunners_ok c hc 0 0 (by omega)
 obtain ⟨q, a2, s2, e2, h2⟩ := moment_ok c hc a1 s1 (by omega)
 unfold spec_DrawLeadBetween.f
 rw [e1]
 simp only [Option.bind_some]
 rw [e2]
 simp only [Option.bind_some]
 exact ⟨_, _, _, _, _, _, rfl⟩
theorem runners_l1 (c : List Int) (hc : bytes c) (lap : Int) (d : Nat) : ∀ (k : Nat) (l : List S45) (a s : Int), 7 ≤ l.length + d → d < k → l.length ≤ 100 → 0 ≤ a → a + 2 * d ≤ 1000 → ∃ l' a' s', spec_l1Cur_runners.l1 k lap l c a s = some (lap, l', a', s') ∧ l'.length ≤ 107 ∧ a ≤ a' ∧ a' ≤ a + 2 * d + 2 := by
 induction d with
 | zero =>
  intro k l a s h7 hk hl h0 h1
  obtain ⟨k, rfl⟩ : ∃ m, k = m + 1 := ⟨k - 1, by omega⟩
  obtain ⟨q, a2, s2, e2, q0, q1, q2, h2⟩ := pick_ok c hc a s 2 (by omega)
  have q3 := q1 (by omega)
  simp only [spec_l1Cur_runners.l1]
  rw [e2]
  simp only [Option.bind_some]
  rw [w64 (x := 6 + q) (by omega), if_neg (by omega)]
  exact ⟨_, _, _, rfl, by omega, by omega, by omega⟩
 | succ d ih =>
  intro k l a s h7 hk hl h0 h1
  obtain ⟨k, rfl⟩ : ∃ m, k = m + 1 := ⟨k - 1, by omega⟩
  obtain ⟨q, a2, s2, e2, q0, q1, q2, h2⟩ := pick_ok c hc a s 2 (by omega)
  have q3 := q1 (by omega)
  simp only [spec_l1Cur_runners.l1]
  rw [e2]
  simp only [Option.bind_some]
  rw [w64 (x := 6 + q) (by omega)]
  by_cases z : (l.length : Int) < 6 + q
  ·
   rw [if_pos z, if_pos (by omega)]
   obtain ⟨l', a', s', e', g1, g2, g3⟩ := ih k (l ++ [⟨0, 2⟩]) a2 s2 (by rw [List.length_append, List.length_singleton]; omega) (by omega) (by rw [List.length_append, List.length_singleton]; omega) (by omega) (by omega)
   exact ⟨l', a', s', e', g1, by omega, by omega⟩
  ·
   rw [if_neg z]
   exact ⟨_, _, _, rfl, by omega, by omega, by omega⟩
theorem runners_l0 (c : List Int) (hc : bytes c) (lap : Int) (d : Nat) : ∀ (k : Nat) (l : List S45) (n a s : Int), n = d → d + 10 < k → l.length + d ≤ 50 → 0 ≤ a → a + 6 * d ≤ 900 → ∃ l' a' s', spec_l1Cur_runners.l0 k lap l n c a s = some (lap, l', a', s') ∧ l'.length ≤ 107 ∧ a ≤ a' ∧ a' ≤ a + 6 * d + 20 := by
 induction d with
 | zero =>
  intro k l n a s hn hk hl h0 h1
  obtain ⟨k, rfl⟩ : ∃ m, k = m + 1 := ⟨k - 1, by omega⟩
  obtain ⟨q, a2, s2, e2, q0, q1, q2, h2⟩ := pick_ok c hc a s 18 (by omega)
  simp only [spec_l1Cur_runners.l0]
  rw [if_neg (by omega), e2]
  simp only [Option.bind_some]
  split
  ·
   exact ⟨_, _, _, rfl, by simp, by omega, by omega⟩
  ·
   split
   ·
    obtain ⟨l', a', s', e', g1, g2, g3⟩ := runners_l1 c hc lap 7 k l a2 s2 (by omega) (by omega) (by omega) (by omega) (by omega)
    exact ⟨l', a', s', e', g1, by omega, by omega⟩
   ·
    exact ⟨_, _, _, rfl, by omega, by omega, by omega⟩
 | succ d ih =>
  intro k l n a s hn hk hl h0 h1
  obtain ⟨k, rfl⟩ : ∃ m, k = m + 1 := ⟨k - 1, by omega⟩
  obtain ⟨x2, y2, a2, s2, e2, h2⟩ := runner_ok c hc a s lap (by omega)
  simp only [spec_l1Cur_runners.l0]
  rw [if_pos (by omega), e2]
  simp only [Option.bind_some]
  rw [if_pos (by omega), w64 (x := n - 1) (by omega)]
  obtain ⟨l', a', s', e', g1, g2, g3⟩ := ih k (l ++ [⟨x2, y2⟩]) (n - 1) a2 s2 (by omega) (by omega) (by rw [List.length_append, List.length_singleton]; omega) (by omega) (by omega)
  exact ⟨l', a', s', e', g1, by omega, by omega⟩
theorem runners_ok (c : List Int) (hc : bytes c) (k : Nat) (hk : 100 < k) : ∃ lap l a' s', spec_l1Cur_runners.f k c 0 0 = some (lap, l, a', s') ∧ l.length ≤ 107 ∧ 0 ≤ a' ∧ a' ≤ 1000 := by
 obtain ⟨lap, a1, s1, e1, h1⟩ := lap_ok c hc 0 0 (by omega)
 obtain ⟨q, a2, s2, e2, q0, q1, q2, h2⟩ := pick_ok c hc a1 s1 4 (by omega)
 have q3 := q1 (by omega)
 unfold spec_l1Cur_runners.f
 rw [e1]
 simp only [Option.bind_some]
 rw [e2]
 simp only [Option.bind_some]
 rw [w64 (x := 1 + q) (by omega)]
 obtain ⟨l', a', s', e', g1, g2, g3⟩ := runners_l0 c hc lap (1 + q).toNat k [] (1 + q) a2 s2 (by omega) (by omega) (by simp; omega) (by omega) (by omega)
 exact ⟨lap, l', a', s', e', g1, by omega, by omega⟩
theorem areRunners_ok (c : List Int) (hc : bytes c) (k : Nat) (hk : 100 < k) : ∃ lap l, spec_DrawAreRunners.f k c = some (lap, l) ∧ l.length ≤ 107 := by
 obtain ⟨lap, l, a, s, e, h, _⟩ := runners_ok c hc k hk
 unfold spec_DrawAreRunners.f
 rw [e]
 exact ⟨_, _, rfl, h⟩
theorem rd_mem (l : List S45) (h : 0 < l.length) : rd_T45 l 0 ∈ l := by
 have e : rd_T45 l 0 = l[0] := by simp [rd_T45, h]
 rw [e]
 exact List.getElem_mem _
theorem per_back (b : Int) (l : List S45) (h : areRun b l) (x : S45) (hx : x ∈ l) : (x.f0 + x.f1 * perOf b l) % b = x.f0 := by
 have d := gf_dvd l b
 have hr := h.2.2 x hx
 unfold isRun at hr
 obtain ⟨m, hm⟩ := d.2 x hx
 have e : x.f1 * (b / gf b l) = b * m := by
  rw [hm, Int.mul_comm (gf b l) m, Int.mul_assoc, Int.mul_ediv_cancel' d.1, Int.mul_comm]
 unfold perOf
 rw [e, Int.add_mul_emod_self_left]
 exact Int.emod_eq_of_lt (by omega) (by omega)
theorem L5 (b : Int) (l : List S45) (h : areRun b l) (FA x : Int) (hx : 0 ≤ x ∧ x ≤ 1000) (K : Nat) (next : ∀ k, K < k → laws_FnRunnersMeet.l4 k b l FA true (x + 1) = some true) (q : Nat) : ∀ (k i : Nat) (ap : Bool), i + q = l.length → K + q + 1 < k → (ap = true ∨ ∃ y ∈ l.drop i, farP y x % b ≠ farP (rd_T45 l 0) x % b) →
  laws_FnRunnersMeet.l5 k b l FA true x ap l (l.length : Int) (i : Int) = some true := by
 have hl := h.2.1
 induction q with
 | zero =>
  intro k i ap hi hk ha
  obtain ⟨k, rfl⟩ : ∃ m, k = m + 1 := ⟨k - 1, by omega⟩
  have hap : ap = true := by
   rcases ha with ha | ⟨y, hy, _⟩
   ·
    exact ha
   ·
    rw [List.drop_of_length_le (by omega)] at hy
    cases hy
  simp only [laws_FnRunnersMeet.l5]
  rw [if_neg (by omega), if_pos hap, w64 (x := x + 1) (by omega)]
  exact next k (by omega)
 | succ q ih =>
  intro k i ap hi hk ha
  obtain ⟨k, rfl⟩ : ∃ m, k = m + 1 := ⟨k - 1, by omega⟩
  have hlt : i < l.length := by omega
  have er : rd_T45 l (i : Int) = l[i] := by simp [rd_T45, hlt]
  have e1 : wrap64 ((i : Int) + 1) = ((i + 1 : Nat) : Int) := by rw [w64 (by omega)]; rfl
  have h1 := h.2.2 l[i] (List.getElem_mem hlt)
  have h2 := h.2.2 _ (rd_mem l (by omega))
  simp only [laws_FnRunnersMeet.l5]
  rw [if_pos (by omega), if_pos (by omega), if_pos (by omega), er, impl_PlaceOnTrack_yes b _ _ x ⟨h.1, h1⟩ (by omega)]
  simp only [Option.bind_some]
  rw [if_pos (by omega), impl_PlaceOnTrack_yes b _ _ x ⟨h.1, h2⟩ (by omega)]
  simp only [Option.bind_some, if_true]
  rw [e1]
  by_cases hap : ap = true
  ·
   rw [if_pos hap]
   exact ih k (i + 1) true (by omega) (by omega) (.inl rfl)
  ·
   rw [if_neg hap]
   refine ih k (i + 1) _ (by omega) (by omega) ?_
   rcases ha with ha | ⟨y, hy, hn⟩
   ·
    exact absurd ha hap
   ·
    rw [List.drop_eq_getElem_cons hlt] at hy
    rcases List.mem_cons.mp hy with rfl | hy
    ·
     left
     rw [bne_iff_ne]
     exact hn
    ·
     exact .inr ⟨y, hy, hn⟩
theorem L4 (b : Int) (l : List S45) (h : areRun b l) (FA : Int) (hF : FA ≤ 1000) (hno : ∀ x, 0 ≤ x → x < FA → ¬ tog b l x) (q : Nat) : ∀ (k : Nat) (x : Int), 0 ≤ x → x + q = FA → 12 * q + 2 < k → laws_FnRunnersMeet.l4 k b l FA true x = some true := by
 have hl := h.2.1
 induction q with
 | zero =>
  intro k x hx hq hk
  obtain ⟨k, rfl⟩ : ∃ m, k = m + 1 + 1 := ⟨k - 2, by omega⟩
  simp only [laws_FnRunnersMeet.l4, if_true, laws_FnRunnersMeet.j17]
  rw [if_neg]
  rw [decide_eq_true_eq]
  omega
 | succ q ih =>
  intro k x hx hq hk
  obtain ⟨k, rfl⟩ : ∃ m, k = m + 1 + 1 := ⟨k - 2, by omega⟩
  simp only [laws_FnRunnersMeet.l4, if_true, laws_FnRunnersMeet.j17]
  rw [if_pos (decide_eq_true (by omega))]
  refine L5 b l h FA x (by omega) (12 * q + 2) (fun k' hk' => ih k' (x + 1) (by omega) (by omega) hk') l.length k 0 false (by omega) (by omega) (.inr ?_)
  have hn := hno x hx (by omega)
  unfold tog at hn
  have ⟨y, hy⟩ := Classical.not_forall.mp hn
  have ⟨hm, hne⟩ := Classical.not_imp.mp hy
  exact ⟨y, by rw [List.drop_zero]; exact hm, hne⟩
theorem L3 (b : Int) (l : List S45) (h : areRun b l) (F : Int × Bool) (hF : F.2 = true → (0 ≤ F.1 ∧ F.1 ≤ 1000) ∧ tog b l F.1) (K : Nat) (next : ∀ k, K < k → laws_FnRunnersMeet.l4 k b l F.1 F.2 0 = some true) (q : Nat) : ∀ (k i : Nat) (W : Int), i + q = l.length → K + 2 * q + 1 < k → (F.2 = true → W < 0 ∨ W = farP (rd_T45 l 0) F.1 % b) →
  laws_FnRunnersMeet.l3 k b l F.1 F.2 (perOf b l) W l (l.length : Int) (i : Int) = some true := by
 have hl := h.2.1
 have hp := per_range b l h
 have hb := h.1
 induction q with
 | zero =>
  intro k i W hi hk hW
  obtain ⟨k, rfl⟩ : ∃ m, k = m + 1 := ⟨k - 1, by omega⟩
  simp only [laws_FnRunnersMeet.l3]
  rw [if_neg (by omega)]
  exact next k (by omega)
 | succ q ih =>
  intro k i W hi hk hW
  obtain ⟨k, rfl⟩ : ∃ m, k = m + 1 + 1 := ⟨k - 2, by omega⟩
  have hlt : i < l.length := by omega
  have er : rd_T45 l (i : Int) = l[i] := by simp [rd_T45, hlt]
  have e1 : wrap64 ((i : Int) + 1) = ((i + 1 : Nat) : Int) := by rw [w64 (by omega)]; rfl
  have h1 := h.2.2 l[i] (List.getElem_mem hlt)
  have hback := per_back b l h l[i] (List.getElem_mem hlt)
  simp only [laws_FnRunnersMeet.l3]
  rw [if_pos (by omega), if_pos (by omega), if_pos (by omega), er, impl_PlaceOnTrack_yes b _ _ (perOf b l) ⟨h.1, h1⟩ (by omega), hback]
  simp only [Option.bind_some, if_true, laws_FnRunnersMeet.j15, bne_self_eq_false, Bool.false_eq_true, if_false]
  by_cases hf : F.2 = true
  ·
   obtain ⟨hr, ht⟩ := hF hf
   have hplace := ht l[i] (List.getElem_mem hlt)
   have hm : 0 ≤ farP (rd_T45 l 0) F.1 % b := Int.emod_nonneg _ (by omega)
   rw [if_pos hf, impl_PlaceOnTrack_yes b _ _ F.1 ⟨h.1, h1⟩ (by omega)]
   simp only [Option.bind_some, if_true]
   have e2 : (l[i].f0 + l[i].f1 * F.1) % b = farP (rd_T45 l 0) F.1 % b := hplace
   rw [e2, e1]
   have go := ih k (i + 1) (farP (rd_T45 l 0) F.1 % b) (by omega) (by omega) (fun _ => .inr rfl)
   by_cases hw : W ≥ 0
   ·
    have : farP (rd_T45 l 0) F.1 % b = W := by
     rcases hW hf with z | z
     ·
      omega
     ·
      exact z.symm
    rw [if_pos hw, if_pos this]
    exact go
   ·
    rw [if_neg hw]
    exact go
  ·
   rw [if_neg hf, e1]
   exact ih k (i + 1) W (by omega) (by omega) (fun z => absurd z hf)
theorem L4no (b : Int) (l : List S45) (FA : Int) (k : Nat) (hk : 2 < k) : laws_FnRunnersMeet.l4 k b l FA false 0 = some true := by
 obtain ⟨k, rfl⟩ : ∃ m, k = m + 1 + 1 := ⟨k - 2, by omega⟩
 simp only [laws_FnRunnersMeet.l4, laws_FnRunnersMeet.j17, Bool.false_eq_true, if_false]
theorem allTogether_ok (c : List Int) (hc : bytes c) (k : Nat) (hk : 100 < k) : ∃ lap l, spec_DrawAllRunnersTogether.f k c = some (lap, l) ∧ l.length ≤ 107 := by
 obtain ⟨lap, l, e, h⟩ := areRunners_ok c hc k hk
 unfold spec_DrawAllRunnersTogether.f
 rw [e]
 exact ⟨_, _, rfl, h⟩
theorem J11 (m : List Int) (_ : Unit) (hm : bytes m) (k : Nat) (hk : 200000 < k) : laws_FnRunnersMeet.j11 k m = some true := by
 obtain ⟨k, rfl⟩ : ∃ m, k = m + 1 + 1 + 1 := ⟨k - 3, by omega⟩
 obtain ⟨b, l, ed, hl7⟩ := allTogether_ok m hm (k + 1 + 1) (by omega)
 have hl : l.length ≤ 10000 := by omega
 have a1 := all_impl b l (k + 1 + 1) (by omega)
 have a2 := all_spec b l (k + 1 + 1) hl (by omega)
 have p1 := per_impl b l (k + 1 + 1) (by omega)
 have p2 := per_spec b l (k + 1 + 1) hl (by omega)
 have r1 := impl_AreRunners_eq b l
 have r2 : spec_AreRunners.f (k + 1 + 1) b l = some (decide (areRun b l)) := by
  unfold spec_AreRunners.f
  rw [spec_trList_eq b l (by omega) _ (by omega)]
  rfl
 by_cases h : areRun b l
 ·
  rw [if_pos h] at a1 a2 p1 p2
  rw [decide_eq_true h] at r1 r2
  have hp := per_range b l h
  have hb := h.1
  have hl6 := h.2.1
  have emod : Int.tmod b (perOf b l) = 0 := by
   rw [Int.tmod_eq_emod_of_nonneg (by omega)]
   exact Int.emod_eq_zero_of_dvd ⟨gf b l, hp.2.2.symm⟩
  obtain ⟨s1, s2⟩ := first_spec (fun t => decide (tog b l t)) (perOf b l).toNat 0
  rw [all_first b l h] at s1 s2
  have fin : laws_FnRunnersMeet.j13 (k + 1) b l (allOf b l).1 (allOf b l).2 (perOf b l) false = some true := by
   simp only [laws_FnRunnersMeet.j13, Bool.false_eq_true, if_false]
   cases hf : (allOf b l).2 with
   | true =>
    obtain ⟨q1, q2, q3, q4⟩ := s1 hf
    have key := L3 b l h (allOf b l) (fun _ => ⟨by omega, of_decide_eq_true q3⟩) 20000 (fun k' hk' => by
     rw [hf]
     exact L4 b l h (allOf b l).1 (by omega) (fun x hx hx2 => of_decide_eq_false (q4 x hx hx2)) (allOf b l).1.toNat k' 0 (Int.le_refl 0) (by omega) (by omega)) l.length k 0 (-1) (by omega) (by omega) (fun _ => .inl (by omega))
    rw [hf] at key
    exact key
   | false =>
    have key := L3 b l h (allOf b l) (fun z => absurd z (by rw [hf]; exact Bool.false_ne_true)) 20000 (fun k' hk' => by
     rw [hf]
     exact L4no b l (allOf b l).1 k' (by omega)) l.length k 0 (-1) (by omega) (by omega) (fun _ => .inl (by omega))
    rw [hf] at key
    exact key
  simp only [laws_FnRunnersMeet.j11, ed, a1, a2, p1, p2, r1, r2, Option.bind_some, bne_self_eq_false, Bool.false_eq_true, if_false, if_true, Bool.not_true]
  have j12 : laws_FnRunnersMeet.j12 (k + 1 + 1) b l (allOf b l).1 (allOf b l).2 (perOf b l) true false = some true := by
   simp only [laws_FnRunnersMeet.j12, Bool.false_eq_true, if_false, if_true]
   rw [if_neg (by omega), if_neg (by omega), if_neg (by omega), if_pos emod]
   by_cases hf : (allOf b l).2 = true
   ·
    obtain ⟨q1, q2, q3, q4⟩ := s1 hf
    rw [if_pos hf, if_neg (by omega)]
    have : decide ((allOf b l).1 ≥ perOf b l) = false := decide_eq_false (by omega)
    rw [this]
    exact fin
   ·
    rw [if_neg hf]
    exact fin
  rw [j12]
  split <;> rfl
 ·
  rw [if_neg h] at a1 a2 p1 p2
  rw [decide_eq_false h] at r1 r2
  simp only [laws_FnRunnersMeet.j11, ed, a1, a2, p1, p2, r1, r2, Option.bind_some, bne_self_eq_false, Bool.false_eq_true, if_false, if_true, laws_FnRunnersMeet.j12]
theorem L2step (k : Nat) (a : Int) (b : List Int) (c ld at_ m x s v t u : Int) (hx : x ≤ 1) : laws_FnRunnersMeet.l2 (k + 1) b a c ld at_ m x s v t u = laws_FnRunnersMeet.l2 k b a c ld at_ (if at_ ≤ wrap64 (x * a) ∧ ld > wrap64 (x * a) then wrap64 (m + 1) else m) (wrap64 (x + 1)) s v t u := by
 simp only [laws_FnRunnersMeet.l2]
 rw [if_pos hx]
 by_cases h1 : at_ ≤ wrap64 (x * a)
 ·
  by_cases h2 : ld > wrap64 (x * a)
  ·
   rw [if_pos h1, if_pos h2, if_pos ⟨h1, h2⟩]
  ·
   rw [if_pos h1, if_neg h2, if_neg (fun z => h2 z.2)]
 ·
  rw [if_neg h1, if_neg (fun z => h1 z.1)]
theorem over_range (L a : Int) (ha : 2 ≤ a) : (L ≤ 0 → (L - 1) / a ≤ -1) ∧ (1 ≤ L → 0 ≤ (L - 1) / a) ∧ (L ≤ a → (L - 1) / a ≤ 0) ∧ (a < L → 1 ≤ (L - 1) / a) := by
 refine ⟨fun h => ?_, fun h => Int.ediv_nonneg (by omega) (by omega), fun h => ?_, fun h => ?_⟩
 ·
  have := Int.ediv_lt_of_lt_mul (show 0 < a by omega) (show L - 1 < 0 * a by omega)
  omega
 ·
  have := Int.ediv_lt_of_lt_mul (show 0 < a by omega) (show L - 1 < 1 * a by omega)
  omega
 ·
  exact Int.le_ediv_of_mul_le (by omega) (by omega)
theorem J8 (a n : Int) (b : List Int) (l : Unit) (hl : bytes b) (c ld : Int) (sv : Bool) (s v t u : Int) (h : sv = true → two a s v t u ∧ (0 ≤ n ∧ n ≤ 1000000) ∧ c = overOf a s v t u n ∧ ld = s + v * n - (t + u * n)) (k : Nat) (hk : 200010 < k) : laws_FnRunnersMeet.j8 k b a n c ld sv s v t u = some true := by
 obtain ⟨k, rfl⟩ : ∃ m, k = m + 1 + 1 + 1 + 1 + 1 + 1 := ⟨k - 6, by omega⟩
 by_cases hs : sv = true
 ·
  obtain ⟨h2, hn, hc, hld⟩ := h hs
  have hsw : two a t u s v := ⟨h2.2, h2.1⟩
  have l1 := impl_LeadBetween_eq a t u s v n (k + 1 + 1 + 1 + 1 + 1) (by omega)
  have l2 := impl_LeadBetween_eq a s v t u 0 (k + 1 + 1 + 1 + 1 + 1) (by omega)
  rw [if_pos ⟨hsw, hn⟩] at l1
  rw [if_pos ⟨h2, by omega⟩] at l2
  rw [Int.mul_zero, Int.mul_zero, Int.add_zero, Int.add_zero] at l2
  have fr := far_two' h2 hn
  have g := h2
  obtain ⟨⟨ha, g1⟩, _, g2⟩ := g
  unfold isRun at g1 g2
  have bvu := bms (A := 100) (B := 1000000) (a := v - u) (b := n) (by omega) hn
  have esub : (v - u) * n = v * n - u * n := Int.sub_mul v u n
  have emul : s - t + (v - u) * n = ld := by rw [esub, hld]; omega
  have e1 : t + u * n - (s + v * n) = wrap64 (-ld) := by rw [w64 (by omega)]; omega
  have e2 : (ld != wrap64 (s - t + wrap64 (wrap64 (v - u) * n))) = false := by
   rw [w64 (x := v - u) (by omega), w64 (x := (v - u) * n) (by omega), emul, w64 (by omega), bne_self_eq_false]
  simp only [laws_FnRunnersMeet.j8, hs, if_true, l1, l2, Option.bind_some, e1, e2]
  simp only [laws_FnRunnersMeet.j9, Bool.false_eq_true, if_false]
  rw [L2step _ _ _ _ _ _ _ _ _ _ _ _ (by omega), w64 (x := -1 + 1) (by omega)]
  rw [L2step _ _ _ _ _ _ _ _ _ _ _ _ (by omega), w64 (x := -1 + 1 + 1) (by omega)]
  rw [L2step _ _ _ _ _ _ _ _ _ _ _ _ (by omega), w64 (x := -1 + 1 + 1 + 1) (by omega)]
  have j11 := J11 b l hl k (by omega)
  have w1 : wrap64 (-1 * a) = -a := by rw [w64 (by omega)]; omega
  have w2 : wrap64 ((-1 + 1) * a) = 0 := by rw [w64 (by omega)]; omega
  have w3 : wrap64 ((-1 + 1 + 1) * a) = a := by rw [w64 (by omega)]; omega
  rw [w1, w2, w3, if_neg (show ¬ (s - t ≤ -a ∧ ld > -a) by omega)]
  have or := over_range ld a ha.1
  have or2 := over_range (s - t) a ha.1
  have lo := ediv_range (ld - 1) a (by omega) (by omega)
  have low_q2 : -1 ≤ (s - t - 1) / a := Int.le_ediv_of_mul_le (by omega) (by omega)
  have vn : v ≤ u → v * n ≤ u * n := fun z => Int.mul_le_mul_of_nonneg_right z hn.1
  have cov : c = mx 0 ((ld - 1) / a - (s - t - 1) / a) := by rw [hc, hld]; rfl
  have tdv : a < ld → Int.tdiv (wrap64 (ld - 1)) a = (ld - 1) / a := by
   intro z
   rw [w64 (x := ld - 1) (by omega), Int.tdiv_eq_ediv_of_nonneg (by omega)]
  obtain ⟨m, hm, hmv⟩ : ∃ m : Int, (if s - t ≤ a ∧ ld > a then wrap64 ((if s - t ≤ 0 ∧ ld > 0 then wrap64 (0 + 1) else 0) + 1) else (if s - t ≤ 0 ∧ ld > 0 then wrap64 (0 + 1) else 0)) = m ∧ m = (if s - t ≤ 0 ∧ ld > 0 then 1 else 0) + (if ld > a then 1 else 0) := by
   refine ⟨_, rfl, ?_⟩
   have w01 : wrap64 (0 + 1) = 1 := w64 (by omega)
   have w11 : wrap64 (1 + 1) = 2 := w64 (by omega)
   rw [w01]
   by_cases z1 : s - t ≤ 0 ∧ ld > 0
   ·
    rw [if_pos z1, w11]
    by_cases z2 : ld > a
    ·
     rw [if_pos ⟨by omega, z2⟩, if_pos z2]; rfl
    ·
     rw [if_neg (fun y => z2 y.2), if_neg z2]; rfl
   ·
    rw [if_neg z1, w01]
    by_cases z2 : ld > a
    ·
     rw [if_pos ⟨by omega, z2⟩, if_pos z2]; rfl
    ·
     rw [if_neg (fun y => z2 y.2), if_neg z2]; rfl
  rw [hm]
  have hall : m ≤ c ∧ (v ≤ u → c = 0) ∧ (ld ≤ a → c = m) ∧ (a < ld → c = m + (ld - 1) / a - 1) ∧ 0 ≤ m ∧ m ≤ 2 := by
   rw [cov, hmv]
   generalize (ld - 1) / a = q at *
   generalize (s - t - 1) / a = q2 at *
   generalize v * n = vn' at *
   generalize u * n = un' at *
   unfold mx
   have c1 : s - t ≤ 0 → q2 = -1 := by
    intro z
    have := or2.1 z
    have lo2 := low_q2
    omega
   have c2 : 1 ≤ s - t → q2 = 0 := by
    intro z
    have := or2.2.1 z
    have := or2.2.2.1 (by omega)
    omega
   refine ⟨?_, ?_, ?_, ?_, ?_, ?_⟩ <;> (try intro _) <;> (repeat' split) <;> omega
  obtain ⟨k1, k2, k3, k4, k5, k6⟩ := hall
  simp only [laws_FnRunnersMeet.l2]
  rw [if_neg (by omega), if_neg (by omega)]
  by_cases hv : v ≤ u
  ·
   rw [if_pos hv, if_pos (k2 hv)]
   by_cases hL : ld ≤ a
   ·
    rw [if_pos hL, if_pos (k3 hL), if_neg (by omega)]
    exact j11
   ·
    rw [if_neg hL, if_pos (by omega), if_neg (by omega), tdv (by omega), w64 (x := (ld - 1) / a) (by omega), w64 (x := m + (ld - 1) / a) (by omega), w64 (by omega), if_pos (k4 (by omega))]
    exact j11
  ·
   rw [if_neg hv]
   by_cases hL : ld ≤ a
   ·
    rw [if_pos hL, if_pos (k3 hL), if_neg (by omega)]
    exact j11
   ·
    rw [if_neg hL, if_pos (by omega), if_neg (by omega), tdv (by omega), w64 (x := (ld - 1) / a) (by omega), w64 (x := m + (ld - 1) / a) (by omega), w64 (by omega), if_pos (k4 (by omega))]
    exact j11
 ·
  simp only [laws_FnRunnersMeet.j8]
  rw [if_neg hs]
  exact J11 b l hl _ (by omega)
def trues : List Bool → Nat
 | [] => 0
 | b :: r => (if b = true then 1 else 0) + trues r
theorem trues_set (M : List Bool) : ∀ j, j < M.length → M.getD j false = false → trues (M.set j true) = trues M + 1 := by
 induction M with
 | nil => intro j h; exact absurd h (Nat.not_lt_zero j)
 | cons b r ih =>
  intro j hj hb
  cases j with
  | zero =>
   have : b = false := hb
   subst this
   rw [List.set_cons_zero]
   unfold trues
   simp
   omega
  | succ j =>
   rw [List.set_cons_succ]
   unfold trues
   rw [ih j (by simpa using hj) hb]
   omega
theorem set_same (M : List Bool) : ∀ j, M.getD j false = true → M.set j true = M := by
 induction M with
 | nil => intro j _; rfl
 | cons b r ih =>
  intro j hb
  cases j with
  | zero =>
   have : b = true := hb
   rw [this]
   rfl
  | succ j => rw [List.set_cons_succ, ih j hb]
theorem marked_trues (M : List Bool) (d : Nat) : ∀ i : Nat, i + d = M.length → (marked M d (i : Int)).length = trues (M.drop i) := by
 induction d with
 | zero =>
  intro i hi
  rw [List.drop_of_length_le (by omega)]
  rfl
 | succ d ih =>
  intro i hi
  have hlt : i < M.length := by omega
  have e : rdOf false M (i : Int) = M[i] := by simp [rdOf, hlt]
  have next := ih (i + 1) (by omega)
  unfold marked
  rw [List.drop_eq_getElem_cons hlt, List.length_append, e]
  have e2 : ((i + 1 : Nat) : Int) = (i : Int) + 1 := rfl
  rw [e2] at next
  rw [next]
  have e3 : trues (M[i] :: M.drop (i + 1)) = (if M[i] = true then 1 else 0) + trues (M.drop (i + 1)) := rfl
  rw [e3]
  congr 1
  split <;> rfl
theorem two_per (a s v t u : Int) (h : two a s v t u) : (1 ≤ perOf a [⟨s, v⟩, ⟨t, u⟩] ∧ perOf a [⟨s, v⟩, ⟨t, u⟩] ≤ a) ∧ a ∣ v * perOf a [⟨s, v⟩, ⟨t, u⟩] ∧ a ∣ u * perOf a [⟨s, v⟩, ⟨t, u⟩] := by
 have hr := (areRun_two a s v t u).mpr h
 have p := per_range a _ hr
 have d := gf_dvd [(⟨s, v⟩ : S45), ⟨t, u⟩] a
 have key : ∀ x : S45, x ∈ [(⟨s, v⟩ : S45), ⟨t, u⟩] → a ∣ x.f1 * perOf a [⟨s, v⟩, ⟨t, u⟩] := by
  intro x hx
  obtain ⟨m, hm⟩ := d.2 x hx
  refine ⟨m, ?_⟩
  unfold perOf
  rw [hm, Int.mul_comm (gf a _) m, Int.mul_assoc, Int.mul_ediv_cancel' d.1, Int.mul_comm]
 exact ⟨⟨p.1, p.2.1⟩, key ⟨s, v⟩ (by simp), key ⟨t, u⟩ (by simp)⟩
theorem marks_same (a s v t u : Int) (h : two a s v t u) : mk (cc a s v t u) (ff a s v) (perOf a [⟨s, v⟩, ⟨t, u⟩]).toNat 0 (List.replicate a.toNat false) = mk (cc a s v t u) (ff a s v) a.toNat 0 (List.replicate a.toNat false) := by
 obtain ⟨⟨p1, p2⟩, d1, d2⟩ := two_per a s v t u h
 have ha := h.1.1
 generalize perOf a [⟨s, v⟩, ⟨t, u⟩] = p at *
 have f0 : ∀ y, 0 ≤ ff a s v y := fun y => Int.emod_nonneg _ (by omega)
 have l1 := mk_length (cc a s v t u) (ff a s v) p.toNat 0 (List.replicate a.toNat false)
 have l2 := mk_length (cc a s v t u) (ff a s v) a.toNat 0 (List.replicate a.toNat false)
 refine List.ext_getElem (by rw [l1, l2]) fun j h1 h2 => ?_
 have hj : j < (List.replicate a.toNat false).length := by rw [l1] at h1; exact h1
 have g1 := mk_get (cc a s v t u) (ff a s v) j p.toNat 0 _ hj (fun y _ _ => f0 y)
 have g2 := mk_get (cc a s v t u) (ff a s v) j a.toNat 0 _ hj (fun y _ _ => f0 y)
 have e : (mk (cc a s v t u) (ff a s v) p.toNat 0 (List.replicate a.toNat false)).getD j false = true ↔ (mk (cc a s v t u) (ff a s v) a.toNat 0 (List.replicate a.toNat false)).getD j false = true := by
  rw [g1, g2]
  constructor
  ·
   rintro (z | ⟨y, y1, y2, y3⟩)
   ·
    exact .inl z
   ·
    exact .inr ⟨y, y1, by omega, y3⟩
  ·
   rintro (z | ⟨y, y1, y2, y3, y4⟩)
   ·
    exact .inl z
   ·
    refine .inr ⟨y % p, Int.emod_nonneg _ (by omega), ?_, ?_, ?_⟩
    ·
     have := Int.emod_lt_of_pos y (show 0 < p by omega)
     omega
    ·
     rw [cc_mod a s v t u p y d1 d2]; exact y3
    ·
     rw [ff_mod a s v p y d1]; exact y4
 have x1 : (mk (cc a s v t u) (ff a s v) p.toNat 0 (List.replicate a.toNat false)).getD j false = (mk (cc a s v t u) (ff a s v) p.toNat 0 (List.replicate a.toNat false))[j] := by rw [List.getD_eq_getElem?_getD, List.getElem?_eq_getElem h1]; rfl
 have x2 : (mk (cc a s v t u) (ff a s v) a.toNat 0 (List.replicate a.toNat false)).getD j false = (mk (cc a s v t u) (ff a s v) a.toNat 0 (List.replicate a.toNat false))[j] := by rw [List.getD_eq_getElem?_getD, List.getElem?_eq_getElem h2]; rfl
 rw [x1, x2] at e
 exact Bool.eq_iff_iff.mpr e
theorem count_places (a s v t u : Int) (h : two a s v t u) : (placesOf a s v t u).length = trues (mk (cc a s v t u) (ff a s v) (perOf a [⟨s, v⟩, ⟨t, u⟩]).toNat 0 (List.replicate a.toNat false)) := by
 rw [marks_same a s v t u h]
 have l2 := mk_length (cc a s v t u) (ff a s v) a.toNat 0 (List.replicate a.toNat false)
 rw [List.length_replicate] at l2
 have := marked_trues (mk (cc a s v t u) (ff a s v) a.toNat 0 (List.replicate a.toNat false)) a.toNat 0 (by rw [l2]; omega)
 rw [List.drop_zero] at this
 exact this
theorem trues_rep (n : Nat) : trues (List.replicate n false) = 0 := by
 induction n with
 | zero => rfl
 | succ n ih =>
  rw [List.replicate_succ]
  unfold trues
  rw [ih]
  rfl
theorem trues_le (M : List Bool) : trues M ≤ M.length := by
 induction M with
 | nil => exact Nat.le_refl 0
 | cons b r ih =>
  unfold trues
  rw [List.length_cons]
  split <;> omega
theorem L1 (a n : Int) (b : List Int) (l : Unit) (c ld : Int) (sv : Bool) (s v t u p : Int) (h : two a s v t u) (hp : p ≤ 1000) (K : Nat) (hK : 2000 < K) (next : ∀ k, K < k → laws_FnRunnersMeet.j8 k b a n c ld sv s v t u = some true) (q : Nat) : ∀ (k : Nat) (x : Int) (M : List Bool), 0 ≤ x → x + q = p → (M.length : Int) = a → K + 2 * q + 1 < k → trues (mk (cc a s v t u) (ff a s v) q x M) = (placesOf a s v t u).length →
  laws_FnRunnersMeet.l1 k b a n c (placesOf a s v t u) ld sv p M (trues M : Int) x s v t u = some true := by
 have g := h
 obtain ⟨⟨ha, g1⟩, _, g2⟩ := g
 have plen := places_len a s v t u
 induction q with
 | zero =>
  intro k x M hx hq hM hk hfin
  obtain ⟨k, rfl⟩ : ∃ m, k = m + 1 := ⟨k - 1, by omega⟩
  have hfin2 : trues M = (placesOf a s v t u).length := hfin
  simp only [laws_FnRunnersMeet.l1]
  rw [if_neg (by omega), if_pos (by rw [hfin2])]
  exact next k (by omega)
 | succ q ih =>
  intro k x M hx hq hM hk hfin
  obtain ⟨k, rfl⟩ : ∃ m, k = m + 1 + 1 := ⟨k - 2, by omega⟩
  have f0 : 0 ≤ (s + v * x) % a := Int.emod_nonneg _ (by omega)
  have f1 : (s + v * x) % a < a := Int.emod_lt_of_pos _ (by omega)
  have tl := trues_le M
  have ew : wrap64 (x + 1) = x + 1 := w64 (by omega)
  have fin2 : trues (mk (cc a s v t u) (ff a s v) q (x + 1) (if cc a s v t u x = true then M.set (ff a s v x).toNat true else M)) = (placesOf a s v t u).length := hfin
  simp only [laws_FnRunnersMeet.l1]
  rw [if_pos (by omega), impl_PlaceOnTrack_yes a s v x ⟨ha, g1⟩ (by omega)]
  simp only [Option.bind_some]
  rw [impl_PlaceOnTrack_yes a t u x ⟨ha, g2⟩ (by omega)]
  simp only [Option.bind_some, if_true]
  have dge : decide ((s + v * x) % a ≥ a) = false := decide_eq_false (by omega)
  by_cases z : (s + v * x) % a = (t + u * x) % a
  ·
   have hc : cc a s v t u x = true := decide_eq_true z
   rw [if_pos hc] at fin2
   rw [if_pos z, laws_qHas_eq _ _ (by omega) _ (by omega), decide_eq_true (show (s + v * x) % a ∈ placesOf a s v t u from time_place a s v t u x ha hc)]
   simp only [Option.bind_some, if_true]
   rw [if_neg (by omega), dge]
   simp only [laws_FnRunnersMeet.j7, Bool.false_eq_true, if_false]
   rw [if_pos z, if_pos f0, if_pos (by omega), ew]
   by_cases y : rdOf false M ((s + v * x) % a) = true
   ·
    rw [if_pos y]
    have y2 : M.getD ((s + v * x) % a).toNat false = true := y
    have e : M.set (ff a s v x).toNat true = M := set_same M _ y2
    rw [e] at fin2
    exact ih k (x + 1) M (by omega) (by omega) hM (by omega) fin2
   ·
    rw [if_neg y]
    have y2 : M.getD ((s + v * x) % a).toNat false = false := by simpa [rdOf] using y
    have e := trues_set M ((s + v * x) % a).toNat (by omega) y2
    have em : wrap64 ((trues M : Int) + 1) = ((trues (M.set ((s + v * x) % a).toNat true) : Nat) : Int) := by rw [e, w64 (by omega)]; rfl
    rw [em]
    exact ih k (x + 1) _ (by omega) (by omega) (by rw [List.length_set]; exact hM) (by omega) fin2
  ·
   have hc : ¬ cc a s v t u x = true := fun q => z (of_decide_eq_true q)
   rw [if_neg hc] at fin2
   rw [if_neg z, if_neg (by omega), dge]
   simp only [laws_FnRunnersMeet.j7, Bool.false_eq_true, if_false]
   rw [if_neg z, ew]
   exact ih k (x + 1) M (by omega) (by omega) hM (by omega) fin2
theorem J4 (a n : Int) (b : List Int) (l : Unit) (hl : bytes b) (c ld : Int) (W : List Int) (five sv : Bool) (s v t u : Int) (h5 : five = true → two a s v t u ∧ W = placesOf a s v t u) (h7 : sv = true → two a s v t u ∧ (0 ≤ n ∧ n ≤ 1000000) ∧ c = overOf a s v t u n ∧ ld = s + v * n - (t + u * n)) (k : Nat) (hk : 300000 < k) : laws_FnRunnersMeet.j4 k b a n c W five ld sv false s v t u = some true := by
 obtain ⟨k, rfl⟩ : ∃ m, k = m + 1 + 1 := ⟨k - 2, by omega⟩
 simp only [laws_FnRunnersMeet.j4, Bool.false_eq_true, if_false]
 by_cases h : five = true
 ·
  obtain ⟨h2, rfl⟩ := h5 h
  obtain ⟨⟨p1, p2⟩, _, _⟩ := two_per a s v t u h2
  have ha := h2.1.1
  have fin := count_places a s v t u h2
  rw [if_pos h, per_impl a _ (k + 1) (by omega), if_pos ((areRun_two a s v t u).mpr h2)]
  simp only [Option.bind_some, if_true]
  have dgt : decide (perOf a [⟨s, v⟩, ⟨t, u⟩] > a) = false := decide_eq_false (by omega)
  rw [dgt]
  simp only [laws_FnRunnersMeet.j5, Bool.false_eq_true, if_false]
  rw [if_pos (by omega), if_pos (by omega)]
  have key := L1 a n b l c ld sv s v t u (perOf a [⟨s, v⟩, ⟨t, u⟩]) h2 (by omega) 200010 (by omega) (fun k' hk' => J8 a n b l hl c ld sv s v t u h7 k' hk') (perOf a [⟨s, v⟩, ⟨t, u⟩]).toNat k 0 (List.replicate a.toNat false) (Int.le_refl 0) (by omega) (by rw [List.length_replicate]; omega) (by omega) fin.symm
  rw [trues_rep] at key
  exact key
 ·
  rw [if_neg h]
  exact J8 a n b l hl c ld sv s v t u h7 _ (by omega)
theorem J3 (a n : Int) (b : List Int) (l : Unit) (hl : bytes b) (c ld pl : Int) (W : List Int) (three five sv : Bool) (s v t u : Int) (h5 : five = true → two a s v t u ∧ W = placesOf a s v t u ∧ three = (firstOf a s v t u).2 ∧ (three = true → pl = ff a s v (firstOf a s v t u).1)) (h7 : sv = true → two a s v t u ∧ (0 ≤ n ∧ n ≤ 1000000) ∧ c = overOf a s v t u n ∧ ld = s + v * n - (t + u * n)) (k : Nat) (hk : 300001 < k) : laws_FnRunnersMeet.j3 k b a n c pl three W five ld sv s v t u = some true := by
 obtain ⟨k, rfl⟩ : ∃ m, k = m + 1 := ⟨k - 1, by omega⟩
 have j4 := J4 a n b l hl c ld W five sv s v t u (fun z => ⟨(h5 z).1, (h5 z).2.1⟩) h7 k (by omega)
 simp only [laws_FnRunnersMeet.j3]
 by_cases h : five = true
 ·
  obtain ⟨h2, rfl, h3, h4⟩ := h5 h
  have ha := h2.1.1
  have plen := places_len a s v t u
  have pf := places_first a s v t u ha
  rw [if_pos h, laws_qRises_eq _ (by omega) (places_inc a s v t u) k (by omega)]
  simp only [Option.bind_some, if_true]
  have e : (decide (((placesOf a s v t u).length : Int) > 0) != three) = false := by
   rw [h3]
   cases hf : (firstOf a s v t u).2 with
   | true =>
    have := List.length_pos_iff.mpr (pf.mpr hf)
    rw [decide_eq_true (by omega)]
    rfl
   | false =>
    have : placesOf a s v t u = [] := by
     apply Classical.byContradiction
     intro z
     have := pf.mp z
     rw [hf] at this
     cases this
    rw [this]
    rfl
  rw [e, if_neg Bool.false_ne_true]
  by_cases z : three = true
  ·
   have hm : pl ∈ placesOf a s v t u := by
    rw [h4 z]
    exact first_place a s v t u ha (by rw [← h3]; exact z)
   rw [if_pos z, laws_qHas_eq _ _ (by omega) k (by omega), decide_eq_true hm]
   exact j4
  ·
   rw [if_neg z]
   exact j4
 ·
  rw [if_neg h]
  exact j4
theorem L0 (a n : Int) (b : List Int) (l : Unit) (c ld pl : Int) (three five sv : Bool) (s v t u : Int) (h : two a s v t u) (hn : 0 ≤ n ∧ n ≤ 10000) (K : Nat) (hK : 300001 ≤ K) (next : ∀ k, K < k → laws_FnRunnersMeet.j3 k b a n c pl three (placesOf a s v t u) five ld sv s v t u = some true) (q : Nat) : ∀ (k i : Nat), i + q = (timesOf a s v t u n).length → K + q + 1 < k →
  laws_FnRunnersMeet.l0 k b a n c pl three (placesOf a s v t u) five ld sv (timesOf a s v t u n) ((timesOf a s v t u n).length : Int) (i : Int) s v t u = some true := by
 have g := h
 obtain ⟨⟨ha, g1⟩, _, g2⟩ := g
 have plen := places_len a s v t u
 have tlen := times_len a s v t u n
 induction q with
 | zero =>
  intro k i hi hk
  obtain ⟨k, rfl⟩ : ∃ m, k = m + 1 := ⟨k - 1, by omega⟩
  simp only [laws_FnRunnersMeet.l0]
  rw [if_neg (by omega)]
  exact next k (by omega)
 | succ q ih =>
  intro k i hi hk
  obtain ⟨k, rfl⟩ : ∃ m, k = m + 1 := ⟨k - 1, by omega⟩
  have hlt : i < (timesOf a s v t u n).length := by omega
  have er : rd (timesOf a s v t u n) (i : Int) = (timesOf a s v t u n)[i] := by simp [rd, hlt]
  have hm := (mem_times a s v t u n _ hn.1).mp (List.getElem_mem hlt)
  have e1 : wrap64 ((i : Int) + 1) = ((i + 1 : Nat) : Int) := by rw [w64 (by omega)]; rfl
  simp only [laws_FnRunnersMeet.l0]
  rw [if_pos (Int.ofNat_lt.mpr hlt), if_pos (Int.natCast_nonneg _), if_pos (Int.ofNat_lt.mpr hlt), er, e1]
  generalize (timesOf a s v t u n)[i] = y at *
  obtain ⟨y0, y1, y2⟩ := hm
  have z : (s + v * y) % a = (t + u * y) % a := of_decide_eq_true y2
  rw [impl_PlaceOnTrack_yes a s v y ⟨ha, g1⟩ (by omega)]
  simp only [Option.bind_some]
  rw [impl_PlaceOnTrack_yes a t u y ⟨ha, g2⟩ (by omega)]
  simp only [Option.bind_some, if_true]
  rw [if_pos z, if_neg (by omega), if_neg (by omega), laws_qHas_eq _ _ (by omega) k (by omega), decide_eq_true (show (s + v * y) % a ∈ placesOf a s v t u from time_place a s v t u y ha y2)]
  simp only [Option.bind_some, if_true]
  exact ih k (i + 1) (by omega) (by omega)
theorem J0 (a n : Int) (b : List Int) (l : Unit) (hl : bytes b) (T W : List Int) (ok three five sv : Bool) (c fi pl ld : Int) (s v t u : Int)
  (h1 : ok = true → two a s v t u ∧ (0 ≤ n ∧ n ≤ 10000) ∧ T = timesOf a s v t u n ∧ W = placesOf a s v t u ∧ three = (firstOf a s v t u).2 ∧ (three = true → fi = (firstOf a s v t u).1))
  (h5 : five = true → two a s v t u ∧ W = placesOf a s v t u ∧ three = (firstOf a s v t u).2 ∧ (three = true → pl = ff a s v (firstOf a s v t u).1)) (h7 : sv = true → two a s v t u ∧ (0 ≤ n ∧ n ≤ 1000000) ∧ c = overOf a s v t u n ∧ ld = s + v * n - (t + u * n)) (k : Nat) (hk : 400000 < k) :
  laws_FnRunnersMeet.j0 k b a n T ok c fi pl three W five ld sv false s v t u = some true := by
 obtain ⟨k, rfl⟩ : ∃ m, k = m + 1 + 1 := ⟨k - 2, by omega⟩
 have j3 : ∀ k', 300001 < k' → laws_FnRunnersMeet.j3 k' b a n c pl three W five ld sv s v t u = some true := fun k' hk' => J3 a n b l hl c ld pl W three five sv s v t u h5 h7 k' hk'
 simp only [laws_FnRunnersMeet.j0, Bool.false_eq_true, if_false]
 by_cases h : ok = true
 ·
  obtain ⟨h2, hn, rfl, rfl, h3, h4⟩ := h1 h
  have ha := h2.1.1
  have tlen := times_len a s v t u n
  have j1 : laws_FnRunnersMeet.j1 (k + 1) b a n (timesOf a s v t u n) c pl three (placesOf a s v t u) five ld sv false s v t u = some true := by
   simp only [laws_FnRunnersMeet.j1, Bool.false_eq_true, if_false]
   exact L0 a n b l c ld pl three five sv s v t u h2 hn 300001 (Nat.le_refl _) j3 (timesOf a s v t u n).length k 0 (by omega) (by omega)
  have ti : (timesOf a s v t u n).Pairwise (· < ·) := mt_inc _ _ _
  rw [if_pos h, laws_qRises_eq _ (by omega) ti (k + 1) (by omega)]
  simp only [Option.bind_some, if_true]
  by_cases hT : timesOf a s v t u n = []
  ·
   have e0 : ((timesOf a s v t u n).length : Int) = 0 := by rw [hT]; rfl
   rw [if_neg (by omega)]
   by_cases z : three = true
   ·
    have hf : (firstOf a s v t u).2 = true := by rw [← h3]; exact z
    have : ¬ fi ≤ n := by
     intro y
     rw [h4 z] at y
     exact first_times a s v t u n hn.1 hf y hT
    rw [if_pos z, if_neg this]
    exact j1
   ·
    rw [if_neg z]
    exact j1
  ·
   obtain ⟨hf, hh⟩ := times_first a s v t u n ha hn.1 hT
   have hpos := List.length_pos_iff.mpr hT
   have z : three = true := by rw [h3]; exact hf
   have e0 : (((timesOf a s v t u n).length : Int) == 0) = false := by
    rw [beq_eq_false_iff_ne]
    omega
   rw [if_pos (by omega), if_pos z, if_pos (by omega), if_pos (by rw [hh, h4 z]), e0]
   split <;> exact j1
 ·
  rw [if_neg h]
  exact j3 _ (by omega)
theorem holds : ∀ (l0 : List Int) (l1 : List Int), l0.length ≤ maxLen → l0.length * 1 ≤ 140737488351232 → (∀ x ∈ l0, (Lit.int .u8 x).wf = true) → l1.length ≤ maxLen → l1.length * 1 ≤ 140737488351232 → (∀ x ∈ l1, (Lit.int .u8 x).wf = true) → ∃ k, laws_FnRunnersMeet.f k l0 l1 = some true := by
 intro c m _ _ hc _ _ hm
 obtain ⟨k, hk⟩ : ∃ k : Nat, 400000 < k := ⟨400001, by decide⟩
 refine ⟨k, ?_⟩
 unfold laws_FnRunnersMeet.f
 obtain ⟨g, eg⟩ : ∃ g, laws_big.f c m = some g := by
  unfold laws_big.f
  split <;> exact ⟨_, rfl⟩
 rw [eg]
 simp only [Option.bind_some]
 by_cases hg : g = true
 ·
  rw [if_pos hg]
 ·
  rw [if_neg hg]
  obtain ⟨a, s, v, t, u, n, ed⟩ := leadBetween_ok c hc
  have ed2 : spec_DrawMeetingTimes.f c = some (a, s, v, t, u, n) := by
   unfold spec_DrawMeetingTimes.f
   rw [ed]
   rfl
  rw [ed2]
  simp only [Option.bind_some]
  obtain ⟨t1, t2⟩ := times_both a s v t u n k (by omega)
  obtain ⟨o1, o2⟩ := over_both a s v t u n k (by omega)
  obtain ⟨f1, f2⟩ := first_both a s v t u k (by omega)
  obtain ⟨p1, p2⟩ := places_both a s v t u k (by omega)
  have b1 := spec_LeadBetween_eq a s v t u n k (by omega)
  have b2 := impl_LeadBetween_eq a s v t u n k (by omega)
  have tl : (if two a s v t u ∧ (0 ≤ n ∧ n ≤ 10000) then (timesOf a s v t u n, true) else ([], false)).1.length ≤ 10001 := by
   split
   ·
    have := times_len a s v t u n
    simp only
    omega
   ·
    exact Nat.zero_le _
  have pl : (if two a s v t u then (placesOf a s v t u, true) else ([], false)).1.length ≤ 1000 := by
   split
   ·
    rename_i h
    have := places_len a s v t u
    have := h.1.1
    simp only
    omega
   ·
    exact Nat.zero_le _
  have q1 := laws_qSame_eq _ (show (if two a s v t u ∧ (0 ≤ n ∧ n ≤ 10000) then (timesOf a s v t u n, true) else ([], false)).1.length ≤ 1000000000 by omega) k (by omega)
  have q2 := laws_qSame_eq _ (show (if two a s v t u then (placesOf a s v t u, true) else ([], false)).1.length ≤ 1000000000 by omega) k (by omega)
  rw [t2]
  simp only [Option.bind_some, t1, o2, o1, f2, f1, p2, p1, b2, b1, bne_self_eq_false, Bool.false_eq_true, if_false, q1, q2, if_true]
  have go := J0 a n m () hm (if two a s v t u ∧ (0 ≤ n ∧ n ≤ 10000) then (timesOf a s v t u n, true) else ([], false)).1 (if two a s v t u then (placesOf a s v t u, true) else ([], false)).1
   (if two a s v t u ∧ (0 ≤ n ∧ n ≤ 10000) then (timesOf a s v t u n, true) else ([], false)).2 (if two a s v t u then fmOf a s v (firstOf a s v t u) else (0, 0, false)).2.2 (if two a s v t u then (placesOf a s v t u, true) else ([], false)).2 (if two a s v t u ∧ (0 ≤ n ∧ n ≤ 1000000) then (s + v * n - (t + u * n), true) else (0, false)).2
   (if two a s v t u ∧ (0 ≤ n ∧ n ≤ 1000000) then (overOf a s v t u n, true) else (0, false)).1 (if two a s v t u then fmOf a s v (firstOf a s v t u) else (0, 0, false)).1 (if two a s v t u then fmOf a s v (firstOf a s v t u) else (0, 0, false)).2.1 (if two a s v t u ∧ (0 ≤ n ∧ n ≤ 1000000) then (s + v * n - (t + u * n), true) else (0, false)).1 s v t u
   (by
    intro z
    by_cases h : two a s v t u ∧ (0 ≤ n ∧ n ≤ 10000)
    ·
     rw [if_pos h, if_pos h.1, if_pos h.1]
     refine ⟨h.1, h.2, rfl, rfl, ?_, fun y => ?_⟩
     ·
      unfold fmOf
      split
      ·
       rename_i w; exact w.symm
      ·
       rename_i w; simpa using w
     ·
      unfold fmOf at y ⊢
      split
      ·
       rfl
      ·
       rename_i w; rw [if_neg w] at y; cases y
    ·
     rw [if_neg h] at z
     cases z)
   (by
    intro z
    by_cases h : two a s v t u
    ·
     rw [if_pos h, if_pos h]
     refine ⟨h, rfl, ?_, fun y => ?_⟩
     ·
      unfold fmOf
      split
      ·
       rename_i w; exact w.symm
      ·
       rename_i w; simpa using w
     ·
      unfold fmOf at y ⊢
      split
      ·
       rfl
      ·
       rename_i w; rw [if_neg w] at y; cases y
    ·
     rw [if_neg h] at z
     cases z)
   (by
    intro z
    by_cases h : two a s v t u ∧ (0 ≤ n ∧ n ≤ 1000000)
    ·
     rw [if_pos h, if_pos h]
     exact ⟨h.1, h.2, rfl, rfl⟩
    ·
     rw [if_neg h] at z
     cases z) k hk
  by_cases h : two a s v t u
  ·
   by_cases h2 : 0 ≤ n ∧ n ≤ 10000
   ·
    have h3 : 0 ≤ n ∧ n ≤ 1000000 := by omega
    cases hf : (firstOf a s v t u).2 <;> simpa [h, h2, h3, fmOf, hf] using go
   ·
    by_cases h3 : 0 ≤ n ∧ n ≤ 1000000
    ·
     cases hf : (firstOf a s v t u).2 <;> simpa [h, h2, h3, fmOf, hf] using go
    ·
     cases hf : (firstOf a s v t u).2 <;> simpa [h, h2, h3, fmOf, hf] using go
  ·
   simpa [h] using go
end Go.Proofs.Ytgobnhoblofglaa.QFnRunnersMeet
