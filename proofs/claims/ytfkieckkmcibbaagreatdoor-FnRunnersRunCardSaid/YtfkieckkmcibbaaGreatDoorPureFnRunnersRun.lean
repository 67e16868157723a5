/- The law FnRunnersRun in plain Lean, over the printed functions: it returns true for every input (no condition). -/
import Derived.Test.YtfkieckkmcibbaaGreatDoorPFnRunnersRunx22
import Derived.OpenShut
namespace Go.Proofs.YtfkieckkmcibbaaGreatDoor.QFnRunnersRun
open Go.RowKit Go.ChangeShapes Go.WideShapes Go.Proofs.YtfkieckkmcibbaaGreatDoor.PFnRunnersRun Go.Proofs.YtfkieckkmcibbaaGreatDoorW.PrintWords Go.Proofs.YtfkieckkmcibbaaGreatDoorW.PrintLast Go.Proofs.YtfkieckkmcibbaaGreatDoorW.PrintMore
set_option linter.unusedVariables false
set_option linter.unusedSimpArgs false
theorem w64 {x : Int} (h : -9223372036854775808 ≤ x ∧ x ≤ 9223372036854775807) : wrap64 x = x := by unfold wrap64; omega
theorem bm {a b A B : Int} (ha : 0 ≤ a ∧ a ≤ A) (hb : 0 ≤ b ∧ b ≤ B) : 0 ≤ a * b ∧ a * b ≤ A * B :=
 ⟨Int.mul_nonneg ha.1 hb.1, Int.mul_le_mul ha.2 hb.2 hb.1 (Int.le_trans ha.1 ha.2)⟩
theorem gcd_step (a b : Int) (ha : 0 ≤ a) (hb : 0 ≤ b) : Int.gcd b (a.tmod b) = Int.gcd a b := by
 obtain ⟨m, rfl⟩ := Int.eq_ofNat_of_zero_le ha
 obtain ⟨n, rfl⟩ := Int.eq_ofNat_of_zero_le hb
 rw [← Int.ofNat_tmod]
 show Nat.gcd n (m % n) = Nat.gcd m n
 rw [Nat.gcd_comm n, ← Nat.gcd_rec, Nat.gcd_comm]
def lowN (a b : Int) : Int := a / (Int.gcd a b : Int)
def lowD (a b : Int) : Int := b / (Int.gcd a b : Int)
theorem gpos {a b : Int} (hb : 0 < b) : 0 < (Int.gcd a b : Int) := by
 have := Int.gcd_pos_of_ne_zero_right a (show b ≠ 0 by omega)
 omega
theorem gle {a b : Int} (hb : 0 < b) : (Int.gcd a b : Int) ≤ b := Int.le_of_dvd hb (Int.gcd_dvd_right a b)
theorem tdiv_gcd_l (a b : Int) : a.tdiv (Int.gcd a b) = lowN a b := by
 unfold lowN
 exact (Int.tdiv_eq_ediv_of_dvd (Int.gcd_dvd_left a b))
theorem tdiv_gcd_r (a b : Int) : b.tdiv (Int.gcd a b) = lowD a b := by
 unfold lowD
 exact (Int.tdiv_eq_ediv_of_dvd (Int.gcd_dvd_right a b))
theorem low_range {a b M : Int} (hb : 0 < b) (ha : -M ≤ a ∧ a ≤ M) : -M ≤ lowN a b ∧ lowN a b ≤ M := by
 unfold lowN
 have g := gpos (a := a) hb
 have hM : 0 ≤ M := by omega
 have e := Int.ediv_mul_cancel (Int.gcd_dvd_left a b)
 constructor
 ·
  apply Int.le_ediv_of_mul_le g
  have : -M * (Int.gcd a b : Int) ≤ -M * 1 := Int.mul_le_mul_of_nonpos_left (by omega) (by omega)
  omega
 ·
  rcases Int.le_total 0 a with h | h
  ·
   have := Int.ediv_le_self (Int.gcd a b : Int) h
   omega
  ·
   have := Int.ediv_le_ediv g h
   rw [Int.zero_ediv] at this
   omega
theorem lowD_range {a b : Int} (hb : 0 < b) : 1 ≤ lowD a b ∧ lowD a b ≤ b := by
 unfold lowD
 have g := gpos (a := a) hb
 constructor
 ·
  apply Int.le_ediv_of_mul_le g
  have := gle (a := a) hb
  omega
 ·
  exact Int.ediv_le_self _ (by omega)
theorem low_scale (a b c : Int) (hc : 0 < c) : lowN (a * c) (b * c) = lowN a b ∧ lowD (a * c) (b * c) = lowD a b := by
 have e : (Int.gcd (a * c) (b * c) : Int) = (Int.gcd a b : Int) * c := by
  rw [Int.gcd_mul_right]
  have : (c.natAbs : Int) = c := by omega
  rw [Int.natCast_mul, this]
 unfold lowN lowD
 rw [e]
 exact ⟨Int.mul_ediv_mul_of_pos_left a _ hc, Int.mul_ediv_mul_of_pos_left b _ hc⟩
theorem spec_l1Least_eq (a b : Int) : spec_l1Least.f a b = some (if a < b then a else b) := by
 unfold spec_l1Least.f
 split <;> rfl
theorem spec_l1Most_eq (a b : Int) : spec_l1Most.f a b = some (if a > b then a else b) := by
 unfold spec_l1Most.f
 split <;> rfl
theorem spec_l1In_eq (a b c : Int) : spec_l1In.f a b c = some (decide (b ≤ a ∧ a ≤ c)) := by
 unfold spec_l1In.f
 by_cases h : b ≤ a <;> simp [h]
theorem spec_trLap_eq (a : Int) : spec_trLap.f a = some (decide (2 ≤ a ∧ a ≤ 1000)) := by
 simp only [spec_trLap.f, spec_l1In_eq, Option.bind_some]
/-- a runner of a track -/
def isRun (a s v : Int) : Prop := (0 ≤ s ∧ s ≤ a - 1) ∧ (1 ≤ v ∧ v ≤ 100)
instance (a s v : Int) : Decidable (isRun a s v) := by unfold isRun; infer_instance
theorem spec_trRunner_eq (a s v : Int) : spec_trRunner.f a s v = some (decide ((2 ≤ a ∧ a ≤ 1000) ∧ isRun a s v)) := by
 simp only [spec_trRunner.f, spec_trLap_eq, spec_l1In_eq, Option.bind_some]
 by_cases h1 : 2 ≤ a ∧ a ≤ 1000
 ·
  rw [w64 (x := a - 1) (by omega)]
  by_cases h2 : 0 ≤ s ∧ s ≤ a - 1
  ·
   by_cases h3 : 1 ≤ v ∧ v ≤ 100
   ·
    have : isRun a s v := ⟨h2, h3⟩
    simp [h1, h2, h3, this]
   ·
    have : ¬ isRun a s v := fun z => h3 z.2
    simp [h1, h2, h3, this]
  ·
   have : ¬ isRun a s v := fun z => h2 z.1
   simp [h1, h2, this]
 ·
  simp [h1]
theorem spec_trList_l0 (a : Int) (l : List S35) (hl : l.length ≤ 1000000000) (d : Nat) : ∀ (k i : Nat), i + d = l.length → d < k →
  spec_trList.l0 k a l (l.length : Int) (i : Int) = some (decide (∀ x ∈ l.drop i, (2 ≤ a ∧ a ≤ 1000) ∧ isRun a x.f0 x.f1)) := by
 induction d with
 | zero =>
  intro k i hi' hk
  obtain ⟨k, rfl⟩ : ∃ m, k = m + 1 := ⟨k - 1, by omega⟩
  simp only [spec_trList.l0]
  rw [if_neg (by omega), List.drop_of_length_le (by omega)]
  simp
 | succ d ih =>
  intro k i hi' hk
  obtain ⟨k, rfl⟩ : ∃ m, k = m + 1 := ⟨k - 1, by omega⟩
  have hlt : i < l.length := by omega
  have er : rd_T35 l (i : Int) = l[i] := by simp [rd_T35, hlt]
  simp only [spec_trList.l0]
  rw [if_pos (by omega), if_pos (by omega), if_pos (by omega), er, spec_trRunner_eq, List.drop_eq_getElem_cons hlt]
  simp only [Option.bind_some]
  have e1 : wrap64 ((i : Int) + 1) = ((i + 1 : Nat) : Int) := by rw [w64 (by omega)]; rfl
  rw [e1, ih k (i + 1) (by omega) (by omega)]
  have e2 : (∀ x ∈ l[i] :: l.drop (i + 1), (2 ≤ a ∧ a ≤ 1000) ∧ isRun a x.f0 x.f1) ↔ (((2 ≤ a ∧ a ≤ 1000) ∧ isRun a l[i].f0 l[i].f1) ∧ ∀ x ∈ l.drop (i + 1), (2 ≤ a ∧ a ≤ 1000) ∧ isRun a x.f0 x.f1) := List.forall_mem_cons
  by_cases h : (2 ≤ a ∧ a ≤ 1000) ∧ isRun a l[i].f0 l[i].f1
  ·
   rw [decide_eq_true h, if_pos rfl]
   exact congrArg some (decide_eq_decide.mpr (e2.trans ⟨fun z => z.2, fun z => ⟨h, z⟩⟩).symm)
  ·
   rw [decide_eq_false h, if_neg Bool.false_ne_true]
   exact congrArg some (decide_eq_false (fun z => h (e2.1 z).1)).symm
theorem spec_trList_iff (a : Int) (l : List S35) (hl : l.length ≤ 1000000000) (k : Nat) (hk : l.length < k) : ∃ b, spec_trList.f k a l = some b ∧ (b = true ↔ ((1 ≤ l.length ∧ l.length ≤ 6) ∧ ∀ x ∈ l, (2 ≤ a ∧ a ≤ 1000) ∧ isRun a x.f0 x.f1)) := by
 unfold spec_trList.f
 rw [spec_l1In_eq]
 simp only [Option.bind_some]
 by_cases h : 1 ≤ (l.length : Int) ∧ (l.length : Int) ≤ 6
 ·
  have := spec_trList_l0 a l hl l.length k 0 (by omega) hk
  refine ⟨_, by rw [decide_eq_true h, if_pos rfl]; exact this, ?_⟩
  rw [decide_eq_true_eq, List.drop_zero]
  exact ⟨fun z => ⟨by omega, z⟩, fun z => z.2⟩
 ·
  refine ⟨false, by rw [decide_eq_false h]; rfl, ?_⟩
  constructor
  ·
   intro z
   cases z
  ·
   intro z
   exact absurd (by have := z.1; omega) h
theorem spec_trTime_eq (a : Int) : spec_trTime.f a = some (decide (0 ≤ a ∧ a ≤ 1000000)) := by
 simp only [spec_trTime.f, spec_l1In_eq, Option.bind_some]
theorem spec_trFar_eq (s v t : Int) (hs : 0 ≤ s ∧ s ≤ 999) (hv : 1 ≤ v ∧ v ≤ 100) (ht : 0 ≤ t ∧ t ≤ 1000000) : spec_trFar.f s v t = some (s + v * t) := by
 have p := bm (A := 100) (B := 1000000) (a := v) (b := t) (by omega) ht
 unfold spec_trFar.f
 rw [w64 (x := v * t) (by omega), w64 (x := s + v * t) (by omega)]
theorem far_range (s v t : Int) (hs : 0 ≤ s ∧ s ≤ 999) (hv : 1 ≤ v ∧ v ≤ 100) (ht : 0 ≤ t ∧ t ≤ 1000000) : 0 ≤ s + v * t ∧ s + v * t ≤ 100000999 := by
 have p := bm (A := 100) (B := 1000000) (a := v) (b := t) (by omega) ht
 omega
theorem spec_l1Own_eq (l : List Int) (hl : l.length < 17592186044416) : spec_l1Own.f l = some l := by
 unfold spec_l1Own.f
 simp only [Option.bind_some, List.nil_append, List.length_nil]
 rw [if_pos (by omega)]
theorem spec_trPlace_eq (a s v t : Int) (ha : 2 ≤ a ∧ a ≤ 1000) (hs : 0 ≤ s ∧ s ≤ 999) (hv : 1 ≤ v ∧ v ≤ 100) (ht : 0 ≤ t ∧ t ≤ 1000000) : spec_trPlace.f a s v t = some ((s + v * t) % a) := by
 have p := far_range s v t hs hv ht
 unfold spec_trPlace.f
 rw [spec_trFar_eq s v t hs hv ht]
 simp only [Option.bind_some]
 rw [if_neg (by omega), Int.tmod_eq_emod_of_nonneg p.1]
theorem spec_trCommon_l0 (n : Nat) : ∀ (k : Nat) (a b : Int), 0 ≤ a → 0 ≤ b → b ≤ n → n < k → spec_trCommon.l0 k a b = some (Int.gcd a b : Int) := by
 induction n with
 | zero =>
  intro k a b ha hb hn hk
  obtain ⟨k, rfl⟩ : ∃ m, k = m + 1 := ⟨k - 1, by omega⟩
  obtain rfl : b = 0 := by omega
  simp only [spec_trCommon.l0]
  rw [if_neg (by omega), Int.gcd_zero_right]
  congr 1
  omega
 | succ n ih =>
  intro k a b ha hb hn hk
  obtain ⟨k, rfl⟩ : ∃ m, k = m + 1 := ⟨k - 1, by omega⟩
  simp only [spec_trCommon.l0]
  by_cases h : b > 0
  ·
   rw [if_pos h, if_neg (by omega)]
   have h1 : 0 ≤ a.tmod b := Int.tmod_nonneg b ha
   have h2 : a.tmod b < b := Int.tmod_lt_of_pos a h
   rw [ih k b (a.tmod b) hb h1 (by omega) (by omega), gcd_step a b ha hb]
  ·
   obtain rfl : b = 0 := by omega
   rw [if_neg h, Int.gcd_zero_right]
   congr 1
   omega
theorem spec_trCommon_eq (k : Nat) (a b : Int) (ha : 0 ≤ a) (hb : 0 ≤ b) (hk : b < k) : spec_trCommon.f k a b = some (Int.gcd a b : Int) := by
 unfold spec_trCommon.f
 exact spec_trCommon_l0 b.toNat k a b ha hb (by omega) (by omega)
def gf (c : Int) : List S35 → Int
 | [] => c
 | x :: r => gf (Int.gcd c x.f1 : Int) r
theorem gcd_range (c v : Int) (hc : 0 < c) : 0 < (Int.gcd c v : Int) ∧ (Int.gcd c v : Int) ≤ c := by
 have h1 := Int.gcd_pos_of_ne_zero_left v (show c ≠ 0 by omega)
 exact ⟨by omega, Int.le_of_dvd hc (Int.gcd_dvd_left c v)⟩
theorem gf_range (l : List S35) : ∀ c : Int, 0 < c → 0 < gf c l ∧ gf c l ≤ c := by
 induction l with
 | nil => exact fun c hc => ⟨hc, Int.le_refl c⟩
 | cons x r ih =>
  intro c hc
  have g := gcd_range c x.f1 hc
  have := ih _ g.1
  exact ⟨this.1, Int.le_trans this.2 g.2⟩
theorem spec_trPeriod_l0 (a : Int) (ha : 2 ≤ a ∧ a ≤ 1000) (l : List S35) (hl : l.length ≤ 6) (hv : ∀ x ∈ l, 1 ≤ x.f1 ∧ x.f1 ≤ 100) (d : Nat) : ∀ (k i : Nat) (c : Int), i + d = l.length → d + 200 < k → 0 < c → c ≤ 1000 →
  spec_trPeriod.l0 k a c l (l.length : Int) (i : Int) = some (a / gf c (l.drop i)) := by
 induction d with
 | zero =>
  intro k i c hi hk h0 h1
  obtain ⟨k, rfl⟩ : ∃ m, k = m + 1 := ⟨k - 1, by omega⟩
  have q0 := Int.ediv_nonneg (show 0 ≤ a by omega) (show 0 ≤ c by omega)
  have q1 := Int.ediv_le_self c (show 0 ≤ a by omega)
  simp only [spec_trPeriod.l0]
  rw [if_neg (by omega), if_neg (by omega), List.drop_of_length_le (by omega), Int.tdiv_eq_ediv_of_nonneg (by omega), w64 (by omega)]
  rfl
 | succ d ih =>
  intro k i c hi hk h0 h1
  obtain ⟨k, rfl⟩ : ∃ m, k = m + 1 := ⟨k - 1, by omega⟩
  have hlt : i < l.length := by omega
  have er : rd_T35 l (i : Int) = l[i] := by simp [rd_T35, hlt]
  have e1 : wrap64 ((i : Int) + 1) = ((i + 1 : Nat) : Int) := by rw [w64 (by omega)]; rfl
  have hx := hv l[i] (List.getElem_mem hlt)
  have g := gcd_range c l[i].f1 h0
  simp only [spec_trPeriod.l0]
  rw [if_pos (by omega), if_pos (by omega), if_pos (by omega), er, spec_trCommon_eq k c l[i].f1 (by omega) (by omega) (by omega), List.drop_eq_getElem_cons hlt]
  simp only [Option.bind_some]
  rw [e1, ih k (i + 1) _ (by omega) (by omega) g.1 (by omega)]
  rfl
theorem spec_trPeriod_eq (a : Int) (ha : 2 ≤ a ∧ a ≤ 1000) (l : List S35) (hl : l.length ≤ 6) (hv : ∀ x ∈ l, 1 ≤ x.f1 ∧ x.f1 ≤ 100) (k : Nat) (hk : 300 < k) : spec_trPeriod.f k a l = some (a / gf a l) := by
 unfold spec_trPeriod.f
 have := spec_trPeriod_l0 a ha l hl hv l.length k 0 a (by omega) (by omega) (by omega) (by omega)
 simpa using this
theorem spec_l1Abs_eq (a : Int) (h : -9223372036854775807 ≤ a ∧ a ≤ 9223372036854775807) : spec_l1Abs.f a = some (Int.natAbs a : Int) := by
 unfold spec_l1Abs.f
 rw [w64 (by omega), spec_l1Most_eq]
 simp only [Option.bind_some, Option.some.injEq]
 split <;> omega
/-- the shorter way around -/
def dist (a p q : Int) : Int := min ((p - q) % a) (a - (p - q) % a)
def farX (x : S35) (t : Int) : Int := x.f0 + x.f1 * t
def nst (a t : Int) (n : Nat) (y : S35) (best : Int) (i : Nat) : List S35 → Int
 | [] => best
 | x :: r => nst a t n y (if i = n then best else min best (dist a (farX x t) (farX y t))) (i + 1) r
theorem dist_range (a p q : Int) (ha : 2 ≤ a ∧ a ≤ 1000) : 0 ≤ dist a p q ∧ dist a p q ≤ 1000 := by
 have r1 := Int.emod_nonneg (p - q) (show a ≠ 0 by omega)
 have r2 := Int.emod_lt_of_pos (p - q) (show 0 < a by omega)
 unfold dist
 omega
theorem nst_range (a t : Int) (ha : 2 ≤ a ∧ a ≤ 1000) (n : Nat) (y : S35) (l : List S35) : ∀ (best : Int) (i : Nat), 0 ≤ best ∧ best ≤ 1000 → 0 ≤ nst a t n y best i l ∧ nst a t n y best i l ≤ 1000 := by
 induction l with
 | nil => exact fun _ _ h => h
 | cons x r ih =>
  intro best i h
  refine ih _ _ ?_
  have := dist_range a (farX x t) (farX y t) ha
  split <;> omega
/-- as it is told by both places -/
theorem dist_places (a p q : Int) (ha : 2 ≤ a ∧ a ≤ 1000) : min ((p % a - q % a).natAbs : Int) (a - ((p % a - q % a).natAbs : Int)) = dist a p q := by
 have r1 := Int.emod_nonneg p (show a ≠ 0 by omega)
 have r2 := Int.emod_lt_of_pos p (show 0 < a by omega)
 have r3 := Int.emod_nonneg q (show a ≠ 0 by omega)
 have r4 := Int.emod_lt_of_pos q (show 0 < a by omega)
 unfold dist
 rw [Int.sub_emod p q a]
 generalize p % a = x at *
 generalize q % a = y at *
 by_cases h : y ≤ x
 ·
  rw [Int.emod_eq_of_lt (a := x - y) (by omega) (by omega)]
  omega
 ·
  have e : (x - y) % a = x - y + a := ((Int.ediv_emod_unique (a := x - y) (q := -1) (r := x - y + a) (show 0 < a by omega)).2 ⟨by omega, by omega, by omega⟩).2
  rw [e]
  omega
theorem spec_trNearest_l0 (a : Int) (ha : 2 ≤ a ∧ a ≤ 1000) (l : List S35) (hl : l.length ≤ 6) (hv : ∀ x ∈ l, isRun a x.f0 x.f1) (n : Nat) (hn : n < l.length) (t : Int) (ht : 0 ≤ t ∧ t ≤ 1000000) (d : Nat) : ∀ (k i : Nat) (best : Int), i + d = l.length → d < k → 0 ≤ best ∧ best ≤ 1000 →
  spec_trNearest.l0 k a l (n : Int) t best l (l.length : Int) (i : Int) = some (nst a t n l[n] best i (l.drop i)) := by
 induction d with
 | zero =>
  intro k i best hi hk h0
  obtain ⟨k, rfl⟩ : ∃ m, k = m + 1 := ⟨k - 1, by omega⟩
  simp only [spec_trNearest.l0]
  rw [if_neg (by omega), List.drop_of_length_le (by omega)]
  rfl
 | succ d ih =>
  intro k i best hi hk h0
  obtain ⟨k, rfl⟩ : ∃ m, k = m + 1 := ⟨k - 1, by omega⟩
  have hlt : i < l.length := by omega
  have er : rd_T35 l (i : Int) = l[i] := by simp [rd_T35, hlt]
  have en : rd_T35 l (n : Int) = l[n] := by simp [rd_T35, hn]
  have e1 : wrap64 ((i : Int) + 1) = ((i + 1 : Nat) : Int) := by rw [w64 (by omega)]; rfl
  have hx := hv l[i] (List.getElem_mem hlt)
  have hy := hv l[n] (List.getElem_mem hn)
  unfold isRun at hx hy
  simp only [spec_trNearest.l0]
  rw [if_pos (by omega), if_pos (by omega), if_pos (by omega), e1, er, en, List.drop_eq_getElem_cons hlt]
  by_cases z : i = n
  ·
   rw [if_pos (by omega), ih k (i + 1) best (by omega) (by omega) h0]
   show _ = some (nst a t n l[n] (if i = n then best else _) (i + 1) _)
   rw [if_pos z]
  ·
   have dd := dist_places a (farX l[i] t) (farX l[n] t) ha
   have dr := dist_range a (farX l[i] t) (farX l[n] t) ha
   have r1 := Int.emod_nonneg (farX l[i] t) (show a ≠ 0 by omega)
   have r2 := Int.emod_lt_of_pos (farX l[i] t) (show 0 < a by omega)
   have r3 := Int.emod_nonneg (farX l[n] t) (show a ≠ 0 by omega)
   have r4 := Int.emod_lt_of_pos (farX l[n] t) (show 0 < a by omega)
   rw [if_neg (by omega), spec_trPlace_eq a _ _ t ha (by omega) hx.2 ht]
   simp only [Option.bind_some]
   rw [if_pos (by omega), if_pos (by omega), spec_trPlace_eq a _ _ t ha (by omega) hy.2 ht]
   simp only [Option.bind_some]
   change ((spec_l1Abs.f (wrap64 (farX l[i] t % a - farX l[n] t % a))).bind _) = _
   generalize farX l[i] t % a = x at *
   generalize farX l[n] t % a = y at *
   rw [w64 (x := x - y) (by omega), spec_l1Abs_eq _ (by omega)]
   simp only [Option.bind_some]
   rw [w64 (by omega), spec_l1Least_eq]
   simp only [Option.bind_some]
   rw [spec_l1Least_eq]
   simp only [Option.bind_some]
   have eb : (if best < (if ((x - y).natAbs : Int) < a - ((x - y).natAbs : Int) then ((x - y).natAbs : Int) else a - ((x - y).natAbs : Int)) then best else (if ((x - y).natAbs : Int) < a - ((x - y).natAbs : Int) then ((x - y).natAbs : Int) else a - ((x - y).natAbs : Int))) = min best (dist a (farX l[i] t) (farX l[n] t)) := by
    rw [← dd]
    split <;> split <;> omega
   rw [eb, ih k (i + 1) _ (by omega) (by omega) (by omega)]
   show _ = some (nst a t n l[n] (if i = n then best else _) (i + 1) _)
   rw [if_neg z]
theorem spec_trNearest_eq (a : Int) (ha : 2 ≤ a ∧ a ≤ 1000) (l : List S35) (hl : l.length ≤ 6) (hv : ∀ x ∈ l, isRun a x.f0 x.f1) (n : Nat) (hn : n < l.length) (t : Int) (ht : 0 ≤ t ∧ t ≤ 1000000) (k : Nat) (hk : 10 < k) :
  spec_trNearest.f k a l (n : Int) t = some (nst a t n l[n] a 0 l) := by
 unfold spec_trNearest.f
 have := spec_trNearest_l0 a ha l hl hv n hn t ht l.length k 0 a (by omega) (by omega) (by omega)
 simpa using this
theorem spec_trTwo_eq (a s v t u : Int) : spec_trTwo.f a s v t u = some (decide (((2 ≤ a ∧ a ≤ 1000) ∧ isRun a s v) ∧ ((2 ≤ a ∧ a ≤ 1000) ∧ isRun a t u))) := by
 simp only [spec_trTwo.f, spec_trRunner_eq, Option.bind_some]
 by_cases h : (2 ≤ a ∧ a ≤ 1000) ∧ isRun a s v <;> simp [h]
/-- a list of bytes as a text -/
def tx (l : List UInt8) : ByteArray := ⟨l.toArray⟩
theorem tx_size (l : List UInt8) : (tx l).size = l.length := by simp [tx, ByteArray.size]
theorem tx_data (l : List UInt8) : (tx l).data.toList = l := by simp [tx]
theorem tx_append (a b : List UInt8) : tx a ++ tx b = tx (a ++ b) := by
 apply ByteArray.ext
 simp [tx, ByteArray.data_append]
theorem tx_of (s : ByteArray) : tx s.data.toList = s := by
 apply ByteArray.ext
 simp [tx]
theorem dec_len (n : Nat) : (Go.Lib.decDigits n).length ≤ n + 1 := by
 induction n using Nat.strongRecOn with
 | _ n ih =>
  rw [Go.Lib.decDigits]
  split
  ·
   simp
  ·
   have := ih (n / 10) (by omega)
   simp only [List.length_append, List.length_cons, List.length_nil]
   omega
theorem itoa_nat (n : Nat) : Go.Lib.itoa (n : Int) = Go.Lib.decDigits n := by
 unfold Go.Lib.itoa
 rw [if_neg (by omega), Int.toNat_natCast]
theorem itoa_len (x : Int) (h : 0 ≤ x) : ((Go.Lib.itoa x).length : Int) ≤ x + 1 := by
 obtain ⟨n, rfl⟩ := Int.eq_ofNat_of_zero_le h
 rw [itoa_nat]
 have := dec_len n
 omega
theorem digit_text (d : Nat) (h : d < 10) : strOfNums [wrap64 (48 + (d : Int)) % 256] = tx [UInt8.ofNat (48 + d)] := by
 rw [w64 (by omega), Int.emod_eq_of_lt (by omega) (by omega)]
 have : (48 + (d : Int)).toNat = 48 + d := by omega
 unfold strOfNums tx
 rw [List.map_cons, List.map_nil, this]
theorem spec_l1Num_nat (n : Nat) : ∀ k : Nat, n ≤ 1000000 → n < k → spec_l1Num.f k (n : Int) = some (tx (Go.Lib.decDigits n)) := by
 induction n using Nat.strongRecOn with
 | _ n ih =>
  intro k hn hk
  obtain ⟨k, rfl⟩ : ∃ m, k = m + 1 := ⟨k - 1, by omega⟩
  rw [Go.Lib.decDigits]
  simp only [spec_l1Num.f]
  by_cases h : n < 10
  ·
   rw [if_pos (by omega), dif_pos h, digit_text n h]
  ·
   have e1 : wrap64 (Int.tdiv (n : Int) 10) = ((n / 10 : Nat) : Int) := by
    rw [Int.tdiv_eq_ediv_of_nonneg (by omega), w64 (by omega)]
    rfl
   have e2 : Int.tmod (n : Int) 10 = ((n % 10 : Nat) : Int) := by
    rw [Int.tmod_eq_emod_of_nonneg (by omega)]
    rfl
   have hl := dec_len (n / 10)
   rw [if_neg (by omega), dif_neg h, e1, ih (n / 10) (by omega) k (by omega) (by omega), e2]
   simp only [Option.bind_some]
   rw [digit_text (n % 10) (by omega), if_pos (by rw [tx_size, tx_size]; simp only [List.length_cons, List.length_nil]; omega), tx_append]
theorem spec_l1Num_eq (x : Int) (h : 0 ≤ x ∧ x ≤ 1000000) (k : Nat) (hk : 1000000 < k) : spec_l1Num.f k x = some (tx (Go.Lib.itoa x)) := by
 obtain ⟨n, rfl⟩ := Int.eq_ofNat_of_zero_le h.1
 rw [itoa_nat]
 exact spec_l1Num_nat n k (by omega) (by omega)
theorem hd_app (l r : List UInt8) (h : l ≠ []) : (l ++ r).head? = l.head? := by
 cases l with
 | nil => exact absurd rfl h
 | cons a l => rfl
theorem snoc_ind {P : List UInt8 → Prop} (h0 : P []) (h1 : ∀ l c, P l → P (l ++ [c])) : ∀ l, P l := by
 have key : ∀ l : List UInt8, P l.reverse := by
  intro l
  induction l with
  | nil => exact h0
  | cons c l ih =>
   rw [List.reverse_cons]
   exact h1 _ _ ih
 intro l
 have := key l.reverse
 rwa [List.reverse_reverse] at this
/-- a text cut at a byte -/
def sp (b : UInt8) : List UInt8 → List (List UInt8)
 | [] => [[]]
 | c :: r => if c = b then [] :: sp b r else match sp b r with
  | [] => [[c]]
  | x :: xs => (c :: x) :: xs
def spA (b : UInt8) (acc : List UInt8) : List UInt8 → List (List UInt8)
 | [] => [acc]
 | c :: r => if c = b then acc :: spA b [] r else spA b (acc ++ [c]) r
theorem sp_ne (b : UInt8) (l : List UInt8) : ∃ x xs, sp b l = x :: xs := by
 cases l with
 | nil => exact ⟨[], [], rfl⟩
 | cons c r =>
  unfold sp
  split
  ·
   exact ⟨[], _, rfl⟩
  ·
   cases sp b r with
   | nil => exact ⟨[c], [], rfl⟩
   | cons x xs => exact ⟨c :: x, xs, rfl⟩
theorem spA_eq (b : UInt8) (l : List UInt8) : ∀ acc x xs, sp b l = x :: xs → spA b acc l = (acc ++ x) :: xs := by
 induction l with
 | nil =>
  intro acc x xs h
  unfold sp at h
  obtain ⟨rfl, rfl⟩ := List.cons.inj h
  simp [spA]
 | cons c r ih =>
  intro acc x xs h
  obtain ⟨y, ys, hy⟩ := sp_ne b r
  unfold sp at h
  unfold spA
  by_cases z : c = b
  ·
   rw [if_pos z] at h ⊢
   obtain ⟨rfl, rfl⟩ := List.cons.inj h
   rw [ih [] y ys hy, hy, List.append_nil, List.nil_append]
  ·
   rw [if_neg z, hy] at h
   rw [if_neg z]
   obtain ⟨rfl, rfl⟩ := List.cons.inj h
   rw [ih (acc ++ [c]) y ys hy, List.append_assoc]
   rfl
theorem spA_nil (b : UInt8) (l : List UInt8) : spA b [] l = sp b l := by
 obtain ⟨x, xs, h⟩ := sp_ne b l
 rw [spA_eq b l [] x xs h, h, List.nil_append]
/-- the pieces, joined again, are the text -/
theorem join_sp (b : UInt8) (l : List UInt8) : Go.Lib.join (sp b l) [b] = l := by
 induction l with
 | nil => rfl
 | cons c r ih =>
  obtain ⟨x, xs, h⟩ := sp_ne b r
  unfold sp
  rw [h] at ih ⊢
  rw [Go.Lib.join_cons] at ih
  by_cases z : c = b
  ·
   rw [if_pos z, Go.Lib.join_cons]
   unfold Go.Lib.joinTail at ih ⊢
   rw [List.map_cons, List.flatten_cons, z, List.nil_append]
   show [b] ++ x ++ _ = _
   rw [List.append_assoc, ih]
   rfl
  ·
   rw [if_neg z]
   show Go.Lib.join ((c :: x) :: xs) [b] = _
   rw [Go.Lib.join_cons, List.cons_append, ih]
theorem sp_len (b : UInt8) (l : List UInt8) : (sp b l).length ≤ l.length + 1 := by
 induction l with
 | nil => exact Nat.le_refl _
 | cons c r ih =>
  obtain ⟨x, xs, h⟩ := sp_ne b r
  unfold sp
  rw [h] at ih ⊢
  split <;> simp only [List.length_cons] at * <;> omega
theorem sp_small (b : UInt8) (l : List UInt8) : ∀ x ∈ sp b l, x.length ≤ l.length := by
 induction l with
 | nil => intro x hx; simp [sp] at hx; subst hx; exact Nat.le_refl _
 | cons c r ih =>
  obtain ⟨y, ys, h⟩ := sp_ne b r
  intro x hx
  unfold sp at hx
  rw [h] at ih hx
  by_cases z : c = b
  ·
   rw [if_pos z] at hx
   rcases List.mem_cons.mp hx with rfl | hx
   ·
    simp
   ·
    have := ih x hx
    simp only [List.length_cons]
    omega
  ·
   rw [if_neg z] at hx
   rcases List.mem_cons.mp hx with rfl | hx
   ·
    have := ih y List.mem_cons_self
    simp only [List.length_cons]
    omega
   ·
    have := ih x (List.mem_cons_of_mem _ hx)
    simp only [List.length_cons]
    omega
theorem splitK_sp (b : UInt8) (l : List UInt8) : Go.Lib.splitK [b] 0 (Go.Lib.count l [b]) l = sp b l := by
 induction l with
 | nil =>
  rw [Go.Lib.count_miss (by simp [Go.Lib.index])]
  rfl
 | cons c r ih =>
  obtain ⟨x, xs, h⟩ := sp_ne b r
  by_cases z : c = b
  ·
   subst z
   have hix : Go.Lib.index (c :: r) [c] = 0 := by rw [Go.Lib.index]; simp [List.isPrefixOf]
   rw [Go.Lib.count_cons_eq, Nat.add_comm 1]
   unfold Go.Lib.splitK sp
   rw [hix, if_pos rfl, ← ih]
   rfl
  ·
   have hp : ([b] : List UInt8).isPrefixOf (c :: r) = false := by simp [List.isPrefixOf, Ne.symm z]
   have hix : Go.Lib.index (c :: r) [b] = if Go.Lib.index r [b] == -1 then -1 else Go.Lib.index r [b] + 1 := by rw [Go.Lib.index, hp]; simp
   rw [Go.Lib.count_cons_ne c b r z]
   unfold sp
   rw [if_neg z, ← ih]
   by_cases hm : Go.Lib.index r [b] = -1
   ·
    rw [Go.Lib.count_miss hm]
    rfl
   ·
    have hge := Go.Lib.index_ge r [b]
    obtain ⟨j, hj⟩ : ∃ j : Nat, Go.Lib.index r [b] = j := ⟨(Go.Lib.index r [b]).toNat, by omega⟩
    have hc : Go.Lib.count r [b] = 1 + Go.Lib.count (r.drop (j + 1)) [b] := by
     have := Go.Lib.count_hit (sub := [b]) (by simp) hj
     simpa using this
    rw [hc, Nat.add_comm 1]
    unfold Go.Lib.splitK
    rw [hix, hj]
    have e1 : ¬ (((j : Nat) : Int) == -1) = true := by intro e; have := beq_iff_eq.1 e; omega
    have e2 : ¬ ((((j : Nat) : Int) + 1) == -1) = true := by intro e; have := beq_iff_eq.1 e; omega
    rw [if_neg e1, if_neg e1, if_neg e2]
    have e3 : (((j : Nat) : Int) + 1).toNat = j + 1 := by omega
    rw [e3, Int.toNat_natCast]
    simp
/-- the value of digits -/
def val (l : List UInt8) : Nat := l.foldl (fun n c => 10 * n + (c.toNat - 48)) 0
def isDig (c : UInt8) : Bool := decide (48 ≤ c.toNat ∧ c.toNat ≤ 57)
/-- the number that a text of at most six digits tells, or -1 -/
def num (l : List UInt8) : Int := if (1 ≤ l.length ∧ l.length ≤ 6) ∧ ¬ (l.head? = some 48 ∧ 1 < l.length) ∧ l.all isDig = true then (val l : Int) else -1
theorem val_snoc (l : List UInt8) (c : UInt8) : val (l ++ [c]) = 10 * val l + (c.toNat - 48) := by
 unfold val
 rw [List.foldl_append]
 rfl
theorem dig_of (d : Nat) (h : d < 10) : (UInt8.ofNat (48 + d)).toNat = 48 + d := by
 rw [UInt8.toNat_ofNat']
 omega
theorem dec_val (n : Nat) : val (Go.Lib.decDigits n) = n ∧ (Go.Lib.decDigits n).all isDig = true := by
 induction n using Nat.strongRecOn with
 | _ n ih =>
  rw [Go.Lib.decDigits]
  split
  ·
   rename_i h
   refine ⟨?_, ?_⟩
   ·
    show 10 * 0 + ((UInt8.ofNat (48 + n)).toNat - 48) = n
    rw [dig_of n h]
    omega
   ·
    simp [isDig, dig_of n h]
    omega
  ·
   rename_i h
   obtain ⟨h1, h2⟩ := ih (n / 10) (by omega)
   refine ⟨?_, ?_⟩
   ·
    rw [val_snoc, h1, dig_of (n % 10) (by omega)]
    omega
   ·
    rw [List.all_append, h2]
    simp [isDig, dig_of (n % 10) (by omega)]
    omega
theorem dec_ne (n : Nat) : Go.Lib.decDigits n ≠ [] := by
 rw [Go.Lib.decDigits]
 split <;> simp
theorem dec_head (n : Nat) (hn : 1 ≤ n) : (Go.Lib.decDigits n).head? ≠ some 48 := by
 induction n using Nat.strongRecOn with
 | _ n ih =>
  rw [Go.Lib.decDigits]
  split
  ·
   rename_i h
   intro e
   have e1 : UInt8.ofNat (48 + n) = 48 := Option.some.inj e
   have := congrArg UInt8.toNat e1
   rw [dig_of n h] at this
   have h48 : (48 : UInt8).toNat = 48 := rfl
   omega
  ·
   rename_i h
   rw [hd_app _ _ (dec_ne _)]
   exact ih (n / 10) (by omega) (by omega)
theorem dec_len6 (n : Nat) : ∀ k : Nat, n < 10 ^ k → 1 ≤ k → (Go.Lib.decDigits n).length ≤ k := by
 induction n using Nat.strongRecOn with
 | _ n ih =>
  intro k hk h1
  rw [Go.Lib.decDigits]
  split
  ·
   simp; omega
  ·
   rename_i h
   obtain ⟨k, rfl⟩ : ∃ q, k = q + 1 := ⟨k - 1, by omega⟩
   rw [Nat.pow_succ] at hk
   have hk0 : 1 ≤ k := by
    rcases Nat.eq_zero_or_pos k with z | z
    ·
     subst z; simp at hk; omega
    ·
     exact z
   have := ih (n / 10) (by omega) k (by omega) hk0
   rw [List.length_append, List.length_singleton]
   omega
/-- a number below a million, in decimal, is read as itself -/
theorem num_dec (n : Nat) (hn : n < 1000000) : num (Go.Lib.decDigits n) = n := by
 obtain ⟨h1, h2⟩ := dec_val n
 have h3 := dec_len6 n 6 (by omega) (by omega)
 have h4 : 1 ≤ (Go.Lib.decDigits n).length := List.length_pos_iff.mpr (dec_ne n)
 have h5 : ¬ ((Go.Lib.decDigits n).head? = some 48 ∧ 1 < (Go.Lib.decDigits n).length) := by
  rintro ⟨e1, e2⟩
  rcases Nat.eq_zero_or_pos n with z | z
  ·
   subst z
   rw [Go.Lib.decDigits_one (by omega)] at e2
   simp at e2
  ·
   exact dec_head n z e1
 unfold num
 rw [if_pos ⟨⟨h4, h3⟩, h5, h2⟩, h1]
theorem val_le (l : List UInt8) : ∀ (hd : l.all isDig = true), val l + 1 ≤ 10 ^ l.length := by
 revert l
 refine snoc_ind ?_ ?_
 ·
  intro _
  simp [val]
 ·
  intro l c ih hd
  rw [List.all_append, Bool.and_eq_true] at hd
  have h1 := ih hd.1
  have h2 : 48 ≤ c.toNat ∧ c.toNat ≤ 57 := by simpa [isDig] using hd.2
  rw [val_snoc, List.length_append, List.length_singleton, Nat.pow_succ]
  omega
/-- digits without a superfluous zero are the decimal of their value -/
theorem dec_of_val (l : List UInt8) : l ≠ [] → l.all isDig = true → ¬ (l.head? = some 48 ∧ 1 < l.length) → Go.Lib.decDigits (val l) = l := by
 revert l
 refine snoc_ind ?_ ?_
 ·
  intro h
  exact absurd rfl h
 ·
  intro l c ih _ hd hz
  rw [List.all_append, Bool.and_eq_true] at hd
  have h2 : 48 ≤ c.toNat ∧ c.toNat ≤ 57 := by simpa [isDig] using hd.2
  have hc : UInt8.ofNat (48 + (c.toNat - 48)) = c := by
   rw [show 48 + (c.toNat - 48) = c.toNat by omega]
   exact UInt8.ofNat_toNat
  by_cases hne : l = []
  ·
   subst hne
   rw [List.nil_append]
   have : val [c] = c.toNat - 48 := by show 10 * 0 + (c.toNat - 48) = _; omega
   rw [this, Go.Lib.decDigits_one (by omega), hc]
  ·
   have hp := List.length_pos_iff.mpr hne
   have hh : l.head? = (l ++ [c]).head? := (hd_app _ _ hne).symm
   have ih2 := ih hne hd.1 (fun h => hz ⟨by rw [← hh]; exact h.1, by rw [List.length_append]; have := h.2; omega⟩)
   have hv : 1 ≤ val l := by
    rcases Nat.eq_zero_or_pos (val l) with z | z
    ·
     rw [z, Go.Lib.decDigits_one (by omega)] at ih2
     exfalso
     refine hz ⟨?_, by rw [List.length_append, List.length_singleton]; omega⟩
     rw [← hh, ← ih2]
     rfl
    ·
     exact z
   rw [val_snoc, Go.Lib.decDigits, dif_neg (by omega)]
   have e1 : (10 * val l + (c.toNat - 48)) / 10 = val l := by omega
   have e2 : (10 * val l + (c.toNat - 48)) % 10 = c.toNat - 48 := by omega
   rw [e1, e2, ih2, hc]
theorem num_yes (l : List UInt8) (h : 0 ≤ num l) : Go.Lib.itoa (num l) = l ∧ num l < 1000000 := by
 unfold num at h ⊢
 by_cases c : (1 ≤ l.length ∧ l.length ≤ 6) ∧ ¬ (l.head? = some 48 ∧ 1 < l.length) ∧ l.all isDig = true
 ·
  rw [if_pos c]
  have h1 := val_le l c.2.2
  have h2 : (10 : Nat) ^ l.length ≤ 10 ^ 6 := Nat.pow_le_pow_right (by omega) c.1.2
  rw [itoa_nat]
  exact ⟨dec_of_val l (fun e => by rw [e] at c; simp at c) c.2.2 c.2.1, by omega⟩
 ·
  rw [if_neg c] at h
  omega
theorem parse_dec (l : List UInt8) (hd : l.all isDig = true) : ∀ acc : Nat, (acc + 1) * 10 ^ l.length ≤ 1000000000000 → Go.Lib.parseUint10 acc l = .ok (l.foldl (fun n c => 10 * n + (c.toNat - 48)) acc) := by
 induction l with
 | nil => intro acc _; rfl
 | cons c r ih =>
  intro acc ha
  rw [List.all_cons, Bool.and_eq_true] at hd
  have h2 : 48 ≤ c.toNat ∧ c.toNat ≤ 57 := by simpa [isDig] using hd.1
  rw [List.length_cons, Nat.pow_succ] at ha
  have hp : 1 ≤ 10 ^ r.length := Nat.one_le_pow _ _ (by omega)
  have hm : (acc + 1) * 10 * 1 ≤ (acc + 1) * 10 * 10 ^ r.length := Nat.mul_le_mul_left _ hp
  have ha2 : (acc + 1) * 10 * 10 ^ r.length ≤ 1000000000000 := by rw [Nat.mul_assoc, Nat.mul_comm 10]; exact ha
  have hs : (acc * 10 + (c.toNat - 48) + 1) * 10 ^ r.length ≤ (acc + 1) * 10 * 10 ^ r.length := Nat.mul_le_mul_right _ (by omega)
  unfold Go.Lib.parseUint10
  rw [if_pos h2, if_neg (by omega), if_neg (by omega), ih hd.2 _ (by omega), List.foldl_cons, Nat.mul_comm acc 10]
theorem atoi_dec (n : Nat) (hn : n < 1000000) : Go.Lib.atoiAll (Go.Lib.decDigits n) = .ok (n : Int) := by
 obtain ⟨h1, h2⟩ := dec_val n
 have h3 := dec_len6 n 6 (by omega) (by omega)
 obtain ⟨c, r, hcr⟩ : ∃ c r, Go.Lib.decDigits n = c :: r := by
  cases h : Go.Lib.decDigits n with
  | nil => exact absurd h (dec_ne n)
  | cons c r => exact ⟨c, r, rfl⟩
 have hp := parse_dec (Go.Lib.decDigits n) h2 0 (by
  have : (10 : Nat) ^ (Go.Lib.decDigits n).length ≤ 10 ^ 6 := Nat.pow_le_pow_right (by omega) h3
  omega)
 have hv : Go.Lib.parseUint10 0 (Go.Lib.decDigits n) = .ok n := by rw [hp]; exact congrArg _ h1
 rw [hcr] at hv h2 ⊢
 rw [List.all_cons, Bool.and_eq_true] at h2
 have hc : 48 ≤ c.toNat ∧ c.toNat ≤ 57 := by simpa [isDig] using h2.1
 unfold Go.Lib.atoiAll
 simp only
 rw [if_neg (by omega)]
 unfold Go.Lib.parseMag
 rw [if_neg (by simp), hv]
 simp only
 rw [if_neg (by omega), if_neg (by omega), if_neg (by omega)]
theorem readN_num (s : ByteArray) (h : 0 ≤ num s.data.toList) : readN s = (num s.data.toList, true) := by
 obtain ⟨h1, h2⟩ := num_yes _ h
 obtain ⟨n, hn⟩ := Int.eq_ofNat_of_zero_le h
 rw [hn] at h1 h2 ⊢
 have ha := atoi_dec n (by omega)
 rw [← itoa_nat, h1] at ha
 unfold readN
 rw [ha]
 simp only
 rw [if_pos h1]
theorem num_readN (s : ByteArray) (v : Int) (h : readN s = (v, true)) (hv : 0 ≤ v ∧ v < 1000000) : num s.data.toList = v := by
 obtain ⟨n, rfl⟩ := Int.eq_ofNat_of_zero_le hv.1
 have key : Go.Lib.itoa (n : Int) = s.data.toList := by
  unfold readN at h
  split at h
  ·
   rename_i w _
   split at h
   ·
    rename_i z
    obtain ⟨rfl, _⟩ := Prod.mk.inj h
    exact z
   ·
    cases (Prod.mk.inj h).2
  ·
   cases (Prod.mk.inj h).2
 rw [← key, itoa_nat]
 exact num_dec n (by omega)
theorem ext_tx (s : ByteArray) (i j : Nat) : s.extract i j = tx ((s.data.toList.drop i).take (j - i)) := by
 apply ByteArray.ext
 rw [ByteArray.data_extract]
 apply Array.toList_inj.mp
 rw [Array.toList_extract, tx_data, List.extract_eq_take_drop]
theorem bt_byte (s : ByteArray) (i : Nat) (h : i < s.data.toList.length) : bt s (i : Int) = (s.data.toList[i].toNat : Int) := by
 have hz : s.data.toList.length = s.size := by rw [Array.length_toList]; rfl
 unfold bt
 rw [dif_pos (by omega)]
 rfl
theorem l1Split_l0 (s : ByteArray) (b : UInt8) (hs : s.data.toList.length ≤ 1048576) (q : Nat) : ∀ (k i f : Nat) (out : List ByteArray), i + q = s.data.toList.length → f ≤ i → out.length ≤ i → q < k →
  spec_l1Split.l0 k s (b.toNat : Int) out (f : Int) (i : Int) = some (out ++ (spA b ((s.data.toList.drop f).take (i - f)) (s.data.toList.drop i)).map tx) := by
 have hz : s.size = s.data.toList.length := by rw [Array.length_toList]; rfl
 induction q with
 | zero =>
  intro k i f out hi hf ho hk
  obtain ⟨k, rfl⟩ : ∃ m, k = m + 1 := ⟨k - 1, by omega⟩
  simp only [spec_l1Split.l0]
  rw [hz, if_neg (by omega), if_pos (by omega), if_pos (by omega), if_pos (by omega), ext_tx, List.drop_of_length_le (show s.data.toList.length ≤ i by omega)]
  have e : i = s.data.toList.length := by omega
  rw [e]
  rfl
 | succ q ih =>
  intro k i f out hi hf ho hk
  obtain ⟨k, rfl⟩ : ∃ m, k = m + 1 := ⟨k - 1, by omega⟩
  have hlt : i < s.data.toList.length := by omega
  have e1 : wrap64 ((i : Int) + 1) = ((i + 1 : Nat) : Int) := by rw [w64 (by omega)]; rfl
  simp only [spec_l1Split.l0]
  rw [hz, if_pos (by omega), if_pos (by omega), bt_byte s i hlt, e1, List.drop_eq_getElem_cons hlt]
  unfold spA
  by_cases z : s.data.toList[i] = b
  ·
   rw [if_pos z, z, if_pos rfl, if_pos (by omega), if_pos (by omega), if_pos (by omega), if_pos (by omega), ext_tx, ih k (i + 1) (i + 1) _ (by omega) (Nat.le_refl _) (by rw [List.length_append, List.length_singleton]; omega) (by omega)]
   rw [Nat.sub_self, List.take_zero, List.map_cons, List.append_assoc]
   rfl
  ·
   have z2 : ¬ ((s.data.toList[i].toNat : Int) = (b.toNat : Int)) := by
    intro e
    exact z (UInt8.toNat_inj.mp (by omega))
   rw [if_neg z, if_neg z2, ih k (i + 1) f out (by omega) (by omega) (by omega) (by omega)]
   have e2 : (s.data.toList.drop f).take (i + 1 - f) = (s.data.toList.drop f).take (i - f) ++ [s.data.toList[i]] := by
    rw [show i + 1 - f = (i - f) + 1 by omega, List.take_add_one, List.getElem?_drop, show f + (i - f) = i by omega, List.getElem?_eq_getElem hlt]
    rfl
   rw [e2]
theorem spec_l1Split_eq (s : ByteArray) (b : UInt8) (hs : s.data.toList.length ≤ 1048576) (k : Nat) (hk : s.data.toList.length < k) : spec_l1Split.f k s (b.toNat : Int) = some ((sp b s.data.toList).map tx) := by
 have := l1Split_l0 s b hs s.data.toList.length k 0 0 [] (by omega) (Nat.le_refl _) (Nat.le_refl _) hk
 unfold spec_l1Split.f
 rw [List.nil_append, Nat.sub_self, List.take_zero, List.drop_zero, spA_nil] at this
 exact this
theorem l1Read_l0 (s : ByteArray) (hs : s.data.toList.length ≤ 6) (q : Nat) : ∀ (k i : Nat), i + q = s.data.toList.length → q < k → (s.data.toList.take i).all isDig = true →
  spec_l1Read.l0 k s (val (s.data.toList.take i) : Int) (i : Int) = some (if s.data.toList.all isDig = true then (val s.data.toList : Int) else -1) := by
 have hz : s.size = s.data.toList.length := by rw [Array.length_toList]; rfl
 induction q with
 | zero =>
  intro k i hi hk hd
  obtain ⟨k, rfl⟩ : ∃ m, k = m + 1 := ⟨k - 1, by omega⟩
  rw [List.take_of_length_le (by omega)] at hd ⊢
  simp only [spec_l1Read.l0]
  rw [hz, if_neg (by omega), if_pos hd]
 | succ q ih =>
  intro k i hi hk hd
  obtain ⟨k, rfl⟩ : ∃ m, k = m + 1 := ⟨k - 1, by omega⟩
  have hlt : i < s.data.toList.length := by omega
  have e1 : wrap64 ((i : Int) + 1) = ((i + 1 : Nat) : Int) := by rw [w64 (by omega)]; rfl
  have et : s.data.toList.take (i + 1) = s.data.toList.take i ++ [s.data.toList[i]] := by rw [List.take_add_one, List.getElem?_eq_getElem hlt]; rfl
  simp only [spec_l1Read.l0]
  rw [hz, if_pos (by omega), if_pos (by omega), bt_byte s i hlt, e1]
  by_cases z : isDig s.data.toList[i] = true
  ·
   have z2 : 48 ≤ s.data.toList[i].toNat ∧ s.data.toList[i].toNat ≤ 57 := by simpa [isDig] using z
   have hv := val_le _ hd
   have hp : (10 : Nat) ^ (s.data.toList.take i).length ≤ 10 ^ 5 := Nat.pow_le_pow_right (by omega) (by rw [List.length_take]; omega)
   have next := ih k (i + 1) (by omega) (by omega) (by rw [et, List.all_append, hd, List.all_cons, z]; rfl)
   rw [et, val_snoc] at next
   generalize val (s.data.toList.take i) = v at *
   generalize s.data.toList[i].toNat = c at *
   have e2 : wrap64 (wrap64 (10 * (v : Int)) + ((c : Int) - 48) % 256) = ((10 * v + (c - 48) : Nat) : Int) := by
    rw [w64 (x := 10 * (v : Int)) (by omega), w64 (by omega)]
    omega
   rw [if_neg (by omega), if_neg (by omega), e2]
   exact next
  ·
   have z3 : ¬ s.data.toList.all isDig = true := by
    intro e
    exact z (List.all_eq_true.mp e _ (List.getElem_mem hlt))
   have z2 : ¬ (48 ≤ s.data.toList[i].toNat ∧ s.data.toList[i].toNat ≤ 57) := by
    intro e
    exact z (by simpa [isDig] using e)
   rw [if_neg z3]
   by_cases y : (s.data.toList[i].toNat : Int) < 48
   ·
    rw [if_pos y]
   ·
    rw [if_neg y, if_pos (by omega)]
theorem spec_l1Read_eq (s : ByteArray) (k : Nat) (hk : 7 < k) : spec_l1Read.f k s = some (num s.data.toList) := by
 have hz : s.size = s.data.toList.length := by rw [Array.length_toList]; rfl
 obtain ⟨k, rfl⟩ : ∃ m, k = m + 1 := ⟨k - 1, by omega⟩
 unfold spec_l1Read.f num
 rw [spec_l1In_eq]
 simp only [Option.bind_some]
 rw [hz]
 by_cases h : 1 ≤ (s.data.toList.length : Int) ∧ (s.data.toList.length : Int) ≤ 6
 ·
  rw [decide_eq_true h, if_pos rfl, if_pos (by omega)]
  have e0 : bt s 0 = (s.data.toList[0].toNat : Int) := bt_byte s 0 (by omega)
  have loop := l1Read_l0 s (by omega) s.data.toList.length k 0 (by omega) (by omega) (by rw [List.take_zero]; rfl)
  have loop2 : spec_l1Read.l0 k s 0 0 = some (if s.data.toList.all isDig = true then (val s.data.toList : Int) else -1) := loop
  have hh : s.data.toList.head? = some s.data.toList[0] := by rw [List.head?_eq_getElem?, List.getElem?_eq_getElem]
  rw [e0, hh]
  by_cases z : s.data.toList[0] = 48
  ·
   rw [z, if_pos (show (((48 : UInt8).toNat : Nat) : Int) = 48 from rfl)]
   simp only [spec_l1Read.j0]
   by_cases y : 1 < s.data.toList.length
   ·
    rw [if_pos (decide_eq_true (by omega)), if_neg (fun e => e.2.1 ⟨trivial, y⟩)]
   ·
    rw [decide_eq_false (by omega), if_neg Bool.false_ne_true, loop2]
    by_cases x : s.data.toList.all isDig = true
    ·
     rw [if_pos x, if_pos ⟨by omega, fun e => y e.2, x⟩]
    ·
     rw [if_neg x, if_neg (fun e => x e.2.2)]
  ·
   have z2 : ¬ (s.data.toList[0].toNat : Int) = 48 := by
    intro e
    exact z (UInt8.toNat_inj.mp (by have : (48 : UInt8).toNat = 48 := rfl; omega))
   rw [if_neg z2]
   simp only [spec_l1Read.j0]
   rw [if_neg Bool.false_ne_true, loop2]
   by_cases x : s.data.toList.all isDig = true
   ·
    rw [if_pos x, if_pos ⟨by omega, fun e => z (Option.some.inj e.1), x⟩]
   ·
    rw [if_neg x, if_neg (fun e => x e.2.2)]
 ·
  rw [decide_eq_false h, if_neg Bool.false_ne_true, if_neg (fun e => h (by have := e.1; omega))]
  simp only [spec_l1Read.j0, if_true]
theorem impl_within_eq (a b c : Int) : impl_within.f a b c = some (decide (b ≤ a ∧ a ≤ c)) := by
 unfold impl_within.f
 by_cases h : b ≤ a <;> simp [h]
theorem impl_isRunner_eq (a s v : Int) (h1 : 2 ≤ a ∧ a ≤ 1000) : impl_isRunner.f a s v = some (decide (isRun a s v)) := by
 simp only [impl_isRunner.f, impl_within_eq, Option.bind_some]
 rw [w64 (x := a - 1) (by omega)]
 by_cases h2 : 0 ≤ s ∧ s ≤ a - 1
 ·
  by_cases h3 : 1 ≤ v ∧ v ≤ 100
  ·
   have : isRun a s v := ⟨h2, h3⟩
   simp [h2, h3, this]
  ·
   have : ¬ isRun a s v := fun z => h3 z.2
   simp [h2, h3, this]
 ·
  have : ¬ isRun a s v := fun z => h2 z.1
  simp [h2, this]
theorem noRun_eq (a : Int) (x : S35) (h1 : 2 ≤ a ∧ a ≤ 1000) : noRun a x = !(decide (isRun a x.f0 x.f1)) := by
 unfold noRun
 rw [impl_isRunner_eq a x.f0 x.f1 h1]
 rfl
/-- runners of a track -/
def areRun (a : Int) (l : List S35) : Prop := (2 ≤ a ∧ a ≤ 1000) ∧ (1 ≤ l.length ∧ l.length ≤ 6) ∧ ∀ x ∈ l, isRun a x.f0 x.f1
instance (a : Int) (l : List S35) : Decidable (areRun a l) := by unfold areRun; infer_instance
theorem impl_AreRunners_eq (a : Int) (l : List S35) : impl_AreRunners.f a l = some (decide (areRun a l)) := by
 unfold impl_AreRunners.f
 rw [impl_within_eq, impl_within_eq]
 simp only [Option.bind_some]
 by_cases h1 : 2 ≤ a ∧ a ≤ 1000
 ·
  by_cases h2 : 1 ≤ (l.length : Int) ∧ (l.length : Int) ≤ 6
  ·
   simp only [h1, h2, and_self, decide_true, if_true, Option.some.injEq]
   by_cases h3 : ∀ x ∈ l, isRun a x.f0 x.f1
   ·
    have z : areRun a l := ⟨h1, by omega, h3⟩
    rw [decide_eq_true z, Bool.not_eq_true', List.any_eq_false]
    intro x hx
    rw [noRun_eq a x h1]
    simp [h3 x hx]
   ·
    have z : ¬ areRun a l := fun y => h3 y.2.2
    rw [decide_eq_false z, Bool.not_eq_false', List.any_eq_true]
    have ⟨x, hx⟩ := Classical.not_forall.mp h3
    have ⟨hm, hn⟩ := Classical.not_imp.mp hx
    exact ⟨x, hm, by rw [noRun_eq a x h1]; simp [hn]⟩
  ·
   have z : ¬ areRun a l := fun y => h2 (by have := y.2.1; omega)
   simp only [h1, h2, and_self, decide_true, decide_false, if_true, Bool.false_eq_true, if_false, decide_eq_false z]
 ·
  have z : ¬ areRun a l := fun y => h1 y.1
  simp only [h1, decide_false, Bool.false_eq_true, if_false, decide_eq_false z]
theorem impl_isRunTime_eq (a : Int) : impl_isRunTime.f a = some (decide (0 ≤ a ∧ a ≤ 1000000)) := by
 simp only [impl_isRunTime.f, impl_within_eq, Option.bind_some]
def outN (l : List S35) (p : List Nat) : List Int := p.reverse.map fun x => ((x % l.length : Nat) : Int)
theorem outN_length (l : List S35) (p : List Nat) : (outN l p).length = p.length := by simp [outN]
theorem sortRev_range (lt : Nat → Nat → Bool) (i : Nat) : sortRev lt (List.range (i + 1)) [] = insRev lt i (sortRev lt (List.range i) []) := by
 unfold sortRev
 rw [List.range_succ, List.foldl_append]
 rfl
theorem sortRev_range_len (lt : Nat → Nat → Bool) (i : Nat) : (sortRev lt (List.range i) []).length = i := by
 rw [insRev_perm_len, List.length_range, List.length_nil]
 omega
theorem insRev_past (lt : Nat → Nat → Bool) (x : Nat) (s r : List Nat) (h : ∀ y ∈ s, lt x y = true) : insRev lt x (s ++ r) = s ++ insRev lt x r := by
 induction s with
 | nil => rfl
 | cons y s ih =>
  have e : insRev lt x (y :: (s ++ r)) = if lt x y = true then y :: insRev lt x (s ++ r) else x :: y :: (s ++ r) := rfl
  rw [List.cons_append, e, if_pos (h y List.mem_cons_self), ih fun z hz => h z (List.mem_cons_of_mem _ hz), List.cons_append]
theorem spec_Order_inner (l : List S35) (t : Int) (hn : 1 ≤ l.length ∧ l.length ≤ 6) (i : Nat) (hi : i < l.length) (R : List Int × Bool) (r : List Nat) : ∀ (s : List Nat) (k K : Nat), (s ++ r).length = i → (∀ y ∈ s, ltN l t i y = true) → K + r.length < k →
  (∀ k', K ≤ k' → spec_OrderOnTrack.l0 k' l t (outN l (insRev (ltN l t) i (s ++ r))) l (l.length : Int) ((i + 1 : Nat) : Int) = some R) →
  spec_OrderOnTrack.l1 k l t (outN l (s ++ r)) (i : Int) (r.length : Int) l (l.length : Int) (i : Int) ((rd_T35 l (i : Int)).f0) ((rd_T35 l (i : Int)).f1) = some R := by
 have e1 : wrap64 ((i : Int) + 1) = ((i + 1 : Nat) : Int) := by rw [w64 (by omega)]; rfl
 have put : ∀ s r : List Nat, (s ++ r).length = i → insRev (ltN l t) i (s ++ r) = s ++ i :: r → (outN l (s ++ r)).take r.length ++ [(i : Int)] ++ (outN l (s ++ r)).drop r.length = outN l (insRev (ltN l t) i (s ++ r)) := by
  intro s r _ e
  rw [e]
  have em : ((i % l.length : Nat) : Int) = (i : Int) := by rw [Nat.mod_eq_of_lt hi]
  have eo : outN l (s ++ r) = outN l r ++ outN l s := by unfold outN; rw [List.reverse_append, List.map_append]
  have eo2 : outN l (s ++ i :: r) = outN l r ++ [(i : Int)] ++ outN l s := by unfold outN; rw [List.reverse_append, List.reverse_cons, List.map_append, List.map_append, List.map_cons, List.map_nil, em]
  rw [eo, eo2, List.take_append_of_le_length (by rw [outN_length]; exact Nat.le_refl _), List.take_of_length_le (by rw [outN_length]; exact Nat.le_refl _), List.drop_append_of_le_length (by rw [outN_length]; exact Nat.le_refl _), List.drop_of_length_le (by rw [outN_length]; exact Nat.le_refl _), List.nil_append]
 have own : ∀ q : List Int, q.length ≤ 6 → spec_l1Own.f q = some q := fun q hq => spec_l1Own_eq q (by omega)
 induction r with
 | nil =>
  intro s k K hlen hs hk next
  obtain ⟨k, rfl⟩ : ∃ m, k = m + 1 := ⟨k - 1, by omega⟩
  have hp := put s [] hlen (by rw [insRev_past _ _ _ _ hs]; rfl)
  have ho := outN_length l (s ++ [])
  simp only [spec_OrderOnTrack.l1]
  rw [List.length_nil] at hp hk ⊢
  rw [if_neg (by omega), if_pos (by omega), if_pos (by omega)]
  have t0 : ((0 : Nat) : Int).toNat = 0 := rfl
  rw [t0, own _ (by rw [List.length_take]; omega)]
  simp only [Option.bind_some]
  rw [if_pos (by rw [List.length_take]; omega), if_pos (by simp only [List.length_append, List.length_take, List.length_drop, List.length_cons, List.length_nil]; omega), e1, hp]
  exact next k (by omega)
 | cons y r ih =>
  intro s k K hlen hs hk next
  obtain ⟨k, rfl⟩ : ∃ m, k = m + 1 := ⟨k - 1, by omega⟩
  have ho := outN_length l (s ++ y :: r)
  have hl2 := hlen
  rw [List.length_append, List.length_cons] at hl2
  rw [List.length_cons] at hk
  have e2 : wrap64 (((y :: r).length : Int) - 1) = (r.length : Int) := by rw [List.length_cons, w64 (by omega)]; omega
  have hm := Nat.mod_lt y (show l.length > 0 by omega)
  have er : rd (outN l (s ++ y :: r)) (r.length : Int) = ((y % l.length : Nat) : Int) := by
   unfold outN rd
   rw [List.reverse_append, List.reverse_cons, Int.toNat_natCast]
   simp
  simp only [spec_OrderOnTrack.l1, spec_trFar.f]
  rw [e2, er, if_pos (by rw [List.length_cons]; omega), if_pos (by omega), if_pos (by omega), if_pos (by omega), if_pos (by omega)]
  simp only [Option.bind_some]
  have em : ((i % l.length : Nat) : Int) = (i : Int) := by rw [Nat.mod_eq_of_lt hi]
  by_cases c : ltN l t i y = true
  ·
   have c2 := of_decide_eq_true (show decide (farN l t y < farN l t i) = true from c)
   unfold farN at c2
   rw [em] at c2
   rw [if_pos c2]
   have hap : s ++ y :: r = (s ++ [y]) ++ r := by simp
   rw [hap] at next hlen ⊢
   exact ih (s ++ [y]) k K hlen (by
    intro z hz
    rcases List.mem_append.mp hz with h | h
    ·
     exact hs z h
    ·
     rw [List.mem_singleton.mp h]
     exact c) (by omega) next
  ·
   have c2 : ¬ (farN l t y < farN l t i) := fun z => c (decide_eq_true z)
   unfold farN at c2
   rw [em] at c2
   rw [if_neg c2]
   have hp := put s (y :: r) hlen (by rw [insRev_past _ _ _ _ hs]; congr 1; unfold insRev; rw [if_neg c])
   rw [if_pos (by omega), if_pos (by rw [List.length_cons]; omega), Int.toNat_natCast, own _ (by rw [List.length_take]; omega)]
   simp only [Option.bind_some]
   rw [if_pos (by rw [List.length_take]; omega), if_pos (by simp only [List.length_append, List.length_take, List.length_drop, List.length_cons, List.length_nil]; omega), e1, hp]
   exact next k (by omega)
theorem spec_Order_outer (l : List S35) (t : Int) (hn : 1 ≤ l.length ∧ l.length ≤ 6) (q : Nat) : ∀ (k i : Nat), i + q = l.length → 10 * q < k →
  spec_OrderOnTrack.l0 k l t (outN l (sortRev (ltN l t) (List.range i) [])) l (l.length : Int) (i : Int) = some (orderN l t, true) := by
 induction q with
 | zero =>
  intro k i hi hk
  obtain ⟨k, rfl⟩ : ∃ m, k = m + 1 := ⟨k - 1, by omega⟩
  obtain rfl : i = l.length := by omega
  simp only [spec_OrderOnTrack.l0]
  rw [if_neg (by omega)]
  rfl
 | succ q ih =>
  intro k i hi hk
  obtain ⟨k, rfl⟩ : ∃ m, k = m + 1 := ⟨k - 1, by omega⟩
  have hl := sortRev_range_len (ltN l t) i
  simp only [spec_OrderOnTrack.l0]
  rw [if_pos (by omega), if_pos (by omega), if_pos (by omega), outN_length]
  refine spec_Order_inner l t hn i (by omega) (orderN l t, true) (sortRev (ltN l t) (List.range i) []) [] k (10 * q + 1) hl (fun y hy => absurd hy List.not_mem_nil) (by omega) ?_
  intro k' hk'
  rw [List.nil_append, ← sortRev_range]
  exact ih k' (i + 1) (by omega) (by omega)
theorem laws_qSame_l0 (l : List Int) (hl : l.length ≤ 1000000000) (d : Nat) : ∀ (k i : Nat), i + d = l.length → d < k → laws_qSame.l0 k l l (l.length : Int) (i : Int) = some true := by
 induction d with
 | zero =>
  intro k i hi hk
  obtain ⟨k, rfl⟩ : ∃ m, k = m + 1 := ⟨k - 1, by omega⟩
  simp only [laws_qSame.l0]
  rw [if_neg (by omega)]
 | succ d ih =>
  intro k i hi hk
  obtain ⟨k, rfl⟩ : ∃ m, k = m + 1 := ⟨k - 1, by omega⟩
  have e1 : wrap64 ((i : Int) + 1) = ((i + 1 : Nat) : Int) := by rw [w64 (by omega)]; rfl
  simp only [laws_qSame.l0, if_true]
  rw [if_pos (by omega), if_pos (by omega), if_pos (by omega), if_pos (by omega), e1]
  exact ih k (i + 1) (by omega) (by omega)
theorem laws_qSame_eq (l : List Int) (hl : l.length ≤ 1000000000) (k : Nat) (hk : l.length < k) : laws_qSame.f k l l = some true := by
 unfold laws_qSame.f
 rw [if_pos rfl]
 exact laws_qSame_l0 l hl l.length k 0 (by omega) hk
theorem laws_qHas_l0 (l : List Int) (x : Int) (hl : l.length ≤ 1000000000) (d : Nat) : ∀ (k i : Nat), i + d = l.length → d < k → laws_qHas.l0 k x l (l.length : Int) (i : Int) = some (decide (x ∈ l.drop i)) := by
 induction d with
 | zero =>
  intro k i hi hk
  obtain ⟨k, rfl⟩ : ∃ m, k = m + 1 := ⟨k - 1, by omega⟩
  simp only [laws_qHas.l0]
  rw [if_neg (by omega), List.drop_of_length_le (by omega)]
  simp
 | succ d ih =>
  intro k i hi hk
  obtain ⟨k, rfl⟩ : ∃ m, k = m + 1 := ⟨k - 1, by omega⟩
  have hlt : i < l.length := by omega
  have e1 : wrap64 ((i : Int) + 1) = ((i + 1 : Nat) : Int) := by rw [w64 (by omega)]; rfl
  have r1 : rd l (i : Int) = l[i] := by simp [rd, hlt]
  simp only [laws_qHas.l0]
  rw [if_pos (by omega), if_pos (by omega), if_pos (by omega), r1, e1, List.drop_eq_getElem_cons hlt]
  by_cases z : l[i] = x
  ·
   rw [if_pos z, z]
   simp
  ·
   rw [if_neg z, ih k (i + 1) (by omega) (by omega)]
   refine congrArg some (decide_eq_decide.mpr ?_)
   rw [List.mem_cons]
   exact ⟨fun h => .inr h, fun h => h.resolve_left fun e => z e.symm⟩
theorem laws_qHas_eq (l : List Int) (x : Int) (hl : l.length ≤ 1000000000) (k : Nat) (hk : l.length < k) : laws_qHas.f k l x = some (decide (x ∈ l)) := by
 have := laws_qHas_l0 l x hl l.length k 0 (by omega) hk
 unfold laws_qHas.f
 exact this
theorem impl_farAt_eq (s v t : Int) (hs : 0 ≤ s ∧ s ≤ 999) (hv : 1 ≤ v ∧ v ≤ 100) (ht : 0 ≤ t ∧ t ≤ 1000000) : impl_farAt.f s v t = some (s + v * t) := by
 have p := bm (A := 100) (B := 1000000) (a := v) (b := t) (by omega) ht
 unfold impl_farAt.f
 rw [w64 (x := v * t) (by omega), w64 (x := s + v * t) (by omega)]
theorem impl_onTrack_eq (a : Int) (l : List S35) : impl_onTrack.f a l = some (decide (areRun a l)) := by
 unfold impl_onTrack.f
 rw [impl_AreRunners_eq]
 rfl
theorem areRun_two (a s v t u : Int) : areRun a [⟨s, v⟩, ⟨t, u⟩] ↔ ((2 ≤ a ∧ a ≤ 1000) ∧ isRun a s v) ∧ ((2 ≤ a ∧ a ≤ 1000) ∧ isRun a t u) := by
 unfold areRun
 simp
 constructor
 ·
  rintro ⟨h1, h2, h3⟩
  exact ⟨⟨h1, h2⟩, h1, h3⟩
 ·
  rintro ⟨⟨h1, h2⟩, _, h3⟩
  exact ⟨h1, h2, h3⟩
def two (a s v t u : Int) : Prop := ((2 ≤ a ∧ a ≤ 1000) ∧ isRun a s v) ∧ ((2 ≤ a ∧ a ≤ 1000) ∧ isRun a t u)
instance (a s v t u : Int) : Decidable (two a s v t u) := by unfold two; infer_instance
theorem onTrack_two (a s v t u : Int) : impl_onTrack.f a [⟨s, v⟩, ⟨t, u⟩] = some (decide (two a s v t u)) := by
 rw [impl_onTrack_eq]
 exact congrArg some (decide_eq_decide.mpr (areRun_two a s v t u))
theorem far_two {a s v t u n : Int} (h : two a s v t u) (hn : 0 ≤ n ∧ n ≤ 1000000) : 0 ≤ s + v * n ∧ s + v * n ≤ 100000999 ∧ 0 ≤ t + u * n ∧ t + u * n ≤ 100000999 ∧ impl_farAt.f s v n = some (s + v * n) ∧ impl_farAt.f t u n = some (t + u * n) := by
 obtain ⟨⟨ha, h1⟩, _, h2⟩ := h
 unfold isRun at h1 h2
 have p1 := far_range s v n (by omega) h1.2 hn
 have p2 := far_range t u n (by omega) h2.2 hn
 exact ⟨p1.1, p1.2, p2.1, p2.2, impl_farAt_eq s v n (by omega) h1.2 hn, impl_farAt_eq t u n (by omega) h2.2 hn⟩
theorem impl_LeadBetween_eq (a s v t u n : Int) (k : Nat) (hk : 1 < k) : impl_LeadBetween.f k a s v t u n = some (if two a s v t u ∧ (0 ≤ n ∧ n ≤ 1000000) then (s + v * n - (t + u * n), true) else (0, false)) := by
 obtain ⟨k, rfl⟩ : ∃ m, k = m + 1 := ⟨k - 1, by omega⟩
 unfold impl_LeadBetween.f
 rw [onTrack_two]
 by_cases h : two a s v t u
 ·
  rw [decide_eq_true h, impl_isRunTime_eq]
  by_cases hn : 0 ≤ n ∧ n ≤ 1000000
  ·
   have p := far_two h hn
   rw [decide_eq_true hn, if_pos ⟨h, hn⟩]
   simp only [Option.bind_some, if_true, impl_LeadBetween.j0, Bool.not_true, Bool.false_eq_true, if_false, p.2.2.2.2.1, p.2.2.2.2.2]
   rw [w64 (by omega)]
  ·
   rw [decide_eq_false hn, if_neg (fun z => hn z.2)]
   simp only [Option.bind_some, if_true, impl_LeadBetween.j0, Bool.not_false]
 ·
  rw [decide_eq_false h, if_neg (fun z => h z.1)]
  simp only [Option.bind_some, Bool.false_eq_true, if_false, impl_LeadBetween.j0, if_true]
theorem areRun_one (a s v : Int) : areRun a [⟨s, v⟩] ↔ (2 ≤ a ∧ a ≤ 1000) ∧ isRun a s v := by
 unfold areRun
 simp
theorem impl_divisorOf_l0 (n : Nat) : ∀ (k : Nat) (a b : Int), 0 ≤ a → 0 ≤ b → b ≤ n → n < k → impl_divisorOf.l0 k a b = some (Int.gcd a b : Int) := by
 induction n with
 | zero =>
  intro k a b ha hb hn hk
  obtain ⟨k, rfl⟩ : ∃ m, k = m + 1 := ⟨k - 1, by omega⟩
  obtain rfl : b = 0 := by omega
  simp only [impl_divisorOf.l0]
  rw [if_neg (by omega), Int.gcd_zero_right]
  congr 1
  omega
 | succ n ih =>
  intro k a b ha hb hn hk
  obtain ⟨k, rfl⟩ : ∃ m, k = m + 1 := ⟨k - 1, by omega⟩
  simp only [impl_divisorOf.l0]
  by_cases h : b > 0
  ·
   rw [if_pos h, if_neg (by omega)]
   have h1 : 0 ≤ a.tmod b := Int.tmod_nonneg b ha
   have h2 : a.tmod b < b := Int.tmod_lt_of_pos a h
   rw [ih k b (a.tmod b) hb h1 (by omega) (by omega), gcd_step a b ha hb]
  ·
   obtain rfl : b = 0 := by omega
   rw [if_neg h, Int.gcd_zero_right]
   congr 1
   omega
theorem impl_divisorOf_eq (k : Nat) (a b : Int) (ha : 0 ≤ a) (hb : 0 ≤ b) (hk : b < k) : impl_divisorOf.f k a b = some (Int.gcd a b : Int) := by
 unfold impl_divisorOf.f
 exact impl_divisorOf_l0 b.toNat k a b ha hb (by omega) (by omega)
theorem impl_runPeriod_l0 (a : Int) (ha : 2 ≤ a ∧ a ≤ 1000) (l : List S35) (hl : l.length ≤ 6) (hv : ∀ x ∈ l, 1 ≤ x.f1 ∧ x.f1 ≤ 100) (d : Nat) : ∀ (k i : Nat) (c : Int), i + d = l.length → d + 200 < k → 0 < c → c ≤ 1000 →
  impl_runPeriod.l0 k a c l (l.length : Int) (i : Int) = some (a / gf c (l.drop i)) := by
 induction d with
 | zero =>
  intro k i c hi hk h0 h1
  obtain ⟨k, rfl⟩ : ∃ m, k = m + 1 := ⟨k - 1, by omega⟩
  have q0 := Int.ediv_nonneg (show 0 ≤ a by omega) (show 0 ≤ c by omega)
  have q1 := Int.ediv_le_self c (show 0 ≤ a by omega)
  simp only [impl_runPeriod.l0]
  rw [if_neg (by omega), if_neg (by omega), List.drop_of_length_le (by omega), Int.tdiv_eq_ediv_of_nonneg (by omega), w64 (by omega)]
  rfl
 | succ d ih =>
  intro k i c hi hk h0 h1
  obtain ⟨k, rfl⟩ : ∃ m, k = m + 1 := ⟨k - 1, by omega⟩
  have hlt : i < l.length := by omega
  have er : rd_T35 l (i : Int) = l[i] := by simp [rd_T35, hlt]
  have e1 : wrap64 ((i : Int) + 1) = ((i + 1 : Nat) : Int) := by rw [w64 (by omega)]; rfl
  have hx := hv l[i] (List.getElem_mem hlt)
  have g := gcd_range c l[i].f1 h0
  simp only [impl_runPeriod.l0]
  rw [if_pos (by omega), if_pos (by omega), if_pos (by omega), er, impl_divisorOf_eq k c l[i].f1 (by omega) (by omega) (by omega), List.drop_eq_getElem_cons hlt]
  simp only [Option.bind_some]
  rw [e1, ih k (i + 1) _ (by omega) (by omega) g.1 (by omega)]
  rfl
theorem impl_runPeriod_eq (a : Int) (ha : 2 ≤ a ∧ a ≤ 1000) (l : List S35) (hl : l.length ≤ 6) (hv : ∀ x ∈ l, 1 ≤ x.f1 ∧ x.f1 ≤ 100) (k : Nat) (hk : 300 < k) : impl_runPeriod.f k a l = some (a / gf a l) := by
 unfold impl_runPeriod.f
 have := impl_runPeriod_l0 a ha l hl hv l.length k 0 a (by omega) (by omega) (by omega) (by omega)
 simpa using this
theorem ediv_range (n b : Int) (hb : 1 ≤ b) (hn : -1000000000000 ≤ n ∧ n ≤ 1000000000000) : -1000000000000 ≤ n / b ∧ n / b ≤ 1000000000000 := by
 constructor
 ·
  apply Int.le_ediv_of_mul_le (by omega)
  omega
 ·
  rcases Int.le_total 0 n with z | z
  ·
   have := Int.ediv_le_self b z
   omega
  ·
   have := Int.ediv_le_ediv (show 0 < b by omega) z
   rw [Int.zero_ediv] at this
   omega
theorem impl_floorDiv_eq (n b : Int) (hb : 1 ≤ b) (hn : -1000000000000 ≤ n ∧ n ≤ 1000000000000) : impl_floorDiv.f n b = some (n / b) := by
 have lo := ediv_range n b hb hn
 unfold impl_floorDiv.f
 rw [if_neg (by omega)]
 by_cases h : 0 ≤ n
 ·
  have r1 := Int.emod_nonneg n (show b ≠ 0 by omega)
  rw [Int.tmod_eq_emod_of_nonneg h, if_neg (by omega), Int.tdiv_eq_ediv_of_nonneg h, w64 (by omega)]
 ·
  obtain ⟨m, rfl⟩ : ∃ m, n = -m := ⟨-n, by omega⟩
  have hm : 0 ≤ m := by omega
  have q2 := Int.mul_ediv_add_emod m b
  have s1 := Int.emod_nonneg m (show b ≠ 0 by omega)
  have s2 := Int.emod_lt_of_pos m (show 0 < b by omega)
  have g := Int.ediv_le_self b hm
  have g0 := Int.ediv_nonneg hm (show 0 ≤ b by omega)
  rw [Int.neg_tmod, Int.neg_tdiv, Int.tmod_eq_emod_of_nonneg hm, Int.tdiv_eq_ediv_of_nonneg hm]
  by_cases z : m % b = 0
  ·
   have e : -m / b = -(m / b) := ((Int.ediv_emod_unique (r := 0) (show 0 < b by omega)).2 ⟨by rw [Int.mul_neg]; omega, by omega, by omega⟩).1
   rw [if_neg (by omega), e, w64 (by omega)]
  ·
   have e : -m / b = -(m / b) - 1 := ((Int.ediv_emod_unique (r := b - m % b) (show 0 < b by omega)).2 ⟨by rw [Int.mul_sub, Int.mul_neg]; omega, by omega, by omega⟩).1
   rw [if_pos (by omega), e, w64 (x := -(m / b)) (by omega), w64 (by omega)]
theorem impl_around_eq (n b : Int) (hb : 1 ≤ b ∧ b ≤ 1000) (hn : -1000000000000 ≤ n ∧ n ≤ 1000000000000) : impl_around.f n b = some (n % b) := by
 have q := Int.mul_ediv_add_emod n b
 have r1 := Int.emod_nonneg n (show b ≠ 0 by omega)
 have r2 := Int.emod_lt_of_pos n (show 0 < b by omega)
 unfold impl_around.f
 rw [impl_floorDiv_eq n b hb.1 hn]
 simp only [Option.bind_some]
 generalize b * (n / b) = u at *
 rw [w64 (x := u) (by omega), w64 (by omega)]
 congr 1
 omega
theorem impl_nearestOther_l0 (a : Int) (ha : 2 ≤ a ∧ a ≤ 1000) (l : List S35) (hl : l.length ≤ 6) (hv : ∀ x ∈ l, isRun a x.f0 x.f1) (n : Nat) (hn : n < l.length) (t : Int) (ht : 0 ≤ t ∧ t ≤ 1000000) (d : Nat) : ∀ (k i : Nat) (best : Int), i + d = l.length → d < k → 0 ≤ best ∧ best ≤ 1000 →
  impl_nearestOther.l0 k a l (n : Int) t best l (l.length : Int) (i : Int) = some (nst a t n l[n] best i (l.drop i)) := by
 induction d with
 | zero =>
  intro k i best hi hk h0
  obtain ⟨k, rfl⟩ : ∃ m, k = m + 1 := ⟨k - 1, by omega⟩
  simp only [impl_nearestOther.l0]
  rw [if_neg (by omega), List.drop_of_length_le (by omega)]
  rfl
 | succ d ih =>
  intro k i best hi hk h0
  obtain ⟨k, rfl⟩ : ∃ m, k = m + 1 := ⟨k - 1, by omega⟩
  have hlt : i < l.length := by omega
  have er : rd_T35 l (i : Int) = l[i] := by simp [rd_T35, hlt]
  have en : rd_T35 l (n : Int) = l[n] := by simp [rd_T35, hn]
  have e1 : wrap64 ((i : Int) + 1) = ((i + 1 : Nat) : Int) := by rw [w64 (by omega)]; rfl
  have hx := hv l[i] (List.getElem_mem hlt)
  have hy := hv l[n] (List.getElem_mem hn)
  unfold isRun at hx hy
  simp only [impl_nearestOther.l0]
  rw [if_pos (by omega), if_pos (by omega), if_pos (by omega), e1, er, en, List.drop_eq_getElem_cons hlt]
  by_cases z : i = n
  ·
   rw [if_pos (by omega), ih k (i + 1) best (by omega) (by omega) h0]
   show _ = some (nst a t n l[n] (if i = n then best else _) (i + 1) _)
   rw [if_pos z]
  ·
   have dr := dist_range a (farX l[i] t) (farX l[n] t) ha
   have f1 := far_range l[i].f0 l[i].f1 t (by omega) hx.2 ht
   have f2 := far_range l[n].f0 l[n].f1 t (by omega) hy.2 ht
   rw [if_neg (by omega), impl_farAt_eq _ _ t (by omega) hx.2 ht]
   simp only [Option.bind_some]
   rw [if_pos (by omega), if_pos (by omega), impl_farAt_eq _ _ t (by omega) hy.2 ht]
   simp only [Option.bind_some]
   change ((impl_around.f (wrap64 (farX l[i] t - farX l[n] t)) a).bind _) = _
   change 0 ≤ farX l[i] t ∧ farX l[i] t ≤ _ at f1
   change 0 ≤ farX l[n] t ∧ farX l[n] t ≤ _ at f2
   rw [w64 (by omega), impl_around_eq _ a (by omega) (by omega)]
   simp only [Option.bind_some]
   have r1 := Int.emod_nonneg (farX l[i] t - farX l[n] t) (show a ≠ 0 by omega)
   have r2 := Int.emod_lt_of_pos (farX l[i] t - farX l[n] t) (show 0 < a by omega)
   have eb : mn (mn best ((farX l[i] t - farX l[n] t) % a)) (wrap64 (a - (farX l[i] t - farX l[n] t) % a)) = min best (dist a (farX l[i] t) (farX l[n] t)) := by
    rw [w64 (by omega)]
    unfold mn dist
    split <;> split <;> omega
   rw [eb, ih k (i + 1) _ (by omega) (by omega) (by omega)]
   show _ = some (nst a t n l[n] (if i = n then best else _) (i + 1) _)
   rw [if_neg z]
theorem impl_nearestOther_eq (a : Int) (ha : 2 ≤ a ∧ a ≤ 1000) (l : List S35) (hl : l.length ≤ 6) (hv : ∀ x ∈ l, isRun a x.f0 x.f1) (n : Nat) (hn : n < l.length) (t : Int) (ht : 0 ≤ t ∧ t ≤ 1000000) (k : Nat) (hk : 10 < k) :
  impl_nearestOther.f k a l (n : Int) t = some (nst a t n l[n] a 0 l) := by
 unfold impl_nearestOther.f
 have := impl_nearestOther_l0 a ha l hl hv n hn t ht l.length k 0 a (by omega) (by omega) (by omega)
 simpa using this
theorem impl_areLaps_eq (a : Int) : impl_areLaps.f a = some (decide (1 ≤ a ∧ a ≤ 100)) := by
 simp only [impl_areLaps.f, impl_within_eq, Option.bind_some]
theorem impl_absOf_eq (a : Int) (h : -9223372036854775807 ≤ a ∧ a ≤ 9223372036854775807) : impl_absOf.f a = some (Int.natAbs a : Int) := by
 unfold impl_absOf.f mx
 rw [w64 (by omega)]
 simp only [Option.some.injEq]
 split <;> omega
theorem impl_lowest_eq (k : Nat) (a b : Int) (hb : 0 < b) (ha : -9223372036854775807 ≤ a ∧ a ≤ 9223372036854775807) (hbb : b ≤ 9223372036854775807) (hk : -(k : Int) < a ∧ a < k) :
  impl_lowest.f k a b = some (lowN a b, lowD a b) := by
 unfold impl_lowest.f
 rw [if_neg (by omega), impl_absOf_eq a ha]
 simp only [Option.bind_some]
 rw [impl_divisorOf_eq k b _ (by omega) (by omega) (by omega)]
 have e : Int.gcd b (a.natAbs : Int) = Int.gcd a b := by
  rw [Int.gcd_comm, Int.gcd, Int.gcd, Int.natAbs_natCast]
 have gp := gpos (a := a) hb
 have r1 := low_range (a := a) hb ha
 have r2 := lowD_range (a := a) hb
 simp only [Option.bind_some, e]
 rw [if_neg (by omega), tdiv_gcd_l, tdiv_gcd_r, w64 (by omega), w64 (by omega)]
theorem join_len (xs : List (List UInt8)) (sep : List UInt8) (M : Nat) (h : ∀ x ∈ xs, x.length ≤ M) : (Go.Lib.join xs sep).length ≤ xs.length * (M + sep.length) := by
 have tail : ∀ ys : List (List UInt8), (∀ x ∈ ys, x.length ≤ M) → (Go.Lib.joinTail sep ys).length ≤ ys.length * (M + sep.length) := by
  intro ys
  induction ys with
  | nil => intro _; simp [Go.Lib.joinTail]
  | cons y r ih =>
   intro hy
   have h1 := hy y List.mem_cons_self
   have h2 := ih (fun x hx => hy x (List.mem_cons_of_mem _ hx))
   unfold Go.Lib.joinTail at *
   rw [List.map_cons, List.flatten_cons, List.length_append, List.length_append, List.length_cons, Nat.succ_mul]
   omega
 cases xs with
 | nil => simp [Go.Lib.join_nil]
 | cons x r =>
  have h1 := h x List.mem_cons_self
  have h2 := tail r (fun y hy => h y (List.mem_cons_of_mem _ hy))
  rw [Go.Lib.join_cons, List.length_append, List.length_cons, Nat.succ_mul]
  omega
theorem strings_Join_eq (xs : List (List UInt8)) (sep : ByteArray) (h : (Go.Lib.join xs sep.data.toList).length ≤ 140737488355328) (hl : xs.length ≤ 140737488355328) : strings_Join.f (xs.map tx) sep = some (tx (Go.Lib.join xs sep.data.toList)) := by
 have e : (xs.map tx).map (·.data.toList) = xs := by
  rw [List.map_map]
  conv => rhs; rw [← List.map_id xs]
  exact List.map_congr_left fun x _ => tx_data x
 unfold strings_Join.f
 rw [e, if_pos ⟨h, by rw [List.length_map]; exact hl⟩]
 rfl
theorem joinNumbers_l0 (l : List Int) (sep : ByteArray) (hl : l.length ≤ 1000) (hb : ∀ x ∈ l, 0 ≤ x ∧ x ≤ 1000000) (hs : sep.size ≤ 1000) (q : Nat) : ∀ (k i : Nat), i + q = l.length → q < k →
  impl_joinNumbers.l0 k sep ((l.take i).map (fun x => tx (Go.Lib.itoa x)) ++ List.replicate q (tx [])) l (l.length : Int) (i : Int) = some (tx (Go.Lib.join (l.map Go.Lib.itoa) sep.data.toList)) := by
 induction q with
 | zero =>
  intro k i hi hk
  obtain ⟨k, rfl⟩ : ∃ m, k = m + 1 := ⟨k - 1, by omega⟩
  have e : ((l.take i).map (fun x => tx (Go.Lib.itoa x)) ++ List.replicate 0 (tx [])) = (l.map Go.Lib.itoa).map tx := by
   rw [List.replicate_zero, List.append_nil, List.take_of_length_le (by omega), List.map_map]
   rfl
  have hj := join_len (l.map Go.Lib.itoa) sep.data.toList 1000001 (by
   intro x hx
   obtain ⟨y, hy, rfl⟩ := List.mem_map.mp hx
   have h1 := hb y hy
   have h2 := itoa_len y h1.1
   omega)
  have hz : sep.data.toList.length = sep.size := by rw [Array.length_toList]; rfl
  rw [List.length_map, hz] at hj
  have hm : l.length * (1000001 + sep.size) ≤ 1000 * 1001001 := Nat.mul_le_mul hl (by omega)
  simp only [impl_joinNumbers.l0]
  rw [if_neg (by omega), e, strings_Join_eq (l.map Go.Lib.itoa) sep (by omega) (by rw [List.length_map]; omega)]
  rfl
 | succ q ih =>
  intro k i hi hk
  obtain ⟨k, rfl⟩ : ∃ m, k = m + 1 := ⟨k - 1, by omega⟩
  have hlt : i < l.length := by omega
  have e1 : wrap64 ((i : Int) + 1) = ((i + 1 : Nat) : Int) := by rw [w64 (by omega)]; rfl
  have er : rd l (i : Int) = l[i] := by simp [rd, hlt]
  have hx := hb l[i] (List.getElem_mem hlt)
  have eI : strconv_Itoa.f l[i] = some (tx (Go.Lib.itoa l[i])) := by
   unfold strconv_Itoa.f
   rw [if_pos (by omega)]
   rfl
  have hlen : ((l.take i).map (fun x => tx (Go.Lib.itoa x)) ++ List.replicate (q + 1) (tx [])).length = l.length := by
   rw [List.length_append, List.length_map, List.length_take, List.length_replicate]
   omega
  have es : ((l.take i).map (fun x => tx (Go.Lib.itoa x)) ++ List.replicate (q + 1) (tx [])).set (i : Int).toNat (tx (Go.Lib.itoa l[i])) = (l.take (i + 1)).map (fun x => tx (Go.Lib.itoa x)) ++ List.replicate q (tx []) := by
   have hi2 : ((l.take i).map (fun x => tx (Go.Lib.itoa x))).length = i := by rw [List.length_map, List.length_take]; omega
   rw [Int.toNat_natCast, List.set_append_right _ _ (by rw [hi2]; exact Nat.le_refl _), hi2, Nat.sub_self, List.replicate_succ, List.set_cons_zero, List.take_add_one, List.getElem?_eq_getElem hlt, List.map_append]
   simp
  have next := ih k (i + 1) (by omega) (by omega)
  rw [← es] at next
  simp only [impl_joinNumbers.l0]
  rw [if_pos (by omega), if_pos (by omega), if_pos (by omega), er, eI]
  simp only [Option.bind_some]
  rw [hlen, if_pos (by omega), e1]
  exact next
theorem impl_joinNumbers_eq (l : List Int) (sep : ByteArray) (hl : l.length ≤ 1000) (hb : ∀ x ∈ l, 0 ≤ x ∧ x ≤ 1000000) (hs : sep.size ≤ 1000) (k : Nat) (hk : 1000 < k) : impl_joinNumbers.f k l sep = some (tx (Go.Lib.join (l.map Go.Lib.itoa) sep.data.toList)) := by
 have := joinNumbers_l0 l sep hl hb hs l.length k 0 (by omega) (by omega)
 rw [List.take_zero, List.map_nil, List.nil_append] at this
 unfold impl_joinNumbers.f
 rw [if_pos (by omega), if_pos (by omega), Int.toNat_natCast]
 exact this
def runTx (x : S35) : List UInt8 := Go.Lib.itoa x.f0 ++ [62] ++ Go.Lib.itoa x.f1
def runsTx (l : List S35) : List UInt8 := Go.Lib.join (l.map runTx) [44]
theorem join_snoc (x : List UInt8) (r : List (List UInt8)) (y sep : List UInt8) : Go.Lib.join (x :: r ++ [y]) sep = Go.Lib.join (x :: r) sep ++ sep ++ y := by
 rw [List.cons_append, Go.Lib.join_cons, Go.Lib.join_cons]
 unfold Go.Lib.joinTail
 rw [List.map_append, List.flatten_append]
 simp
theorem runTx_len {a : Int} {x : S35} (ha : a ≤ 1000) (h : isRun a x.f0 x.f1) : (runTx x).length ≤ 2000 := by
 unfold isRun at h
 have h1 := itoa_len x.f0 (by omega)
 have h2 := itoa_len x.f1 (by omega)
 unfold runTx
 simp only [List.length_append, List.length_cons, List.length_nil]
 omega
theorem lit62 : (⟨#[62]⟩ : ByteArray) = tx [62] := rfl
theorem lit44 : (⟨#[44]⟩ : ByteArray) = tx [44] := rfl
theorem join_len' (xs : List (List UInt8)) (sep : List UInt8) (M : Nat) (h : ∀ x ∈ xs, x.length ≤ M) : (Go.Lib.join xs sep).length ≤ xs.length * (M + sep.length) := by
 have tail : ∀ ys : List (List UInt8), (∀ x ∈ ys, x.length ≤ M) → (Go.Lib.joinTail sep ys).length ≤ ys.length * (M + sep.length) := by
  intro ys
  induction ys with
  | nil => intro _; simp [Go.Lib.joinTail]
  | cons y r ih =>
   intro hy
   have h1 := hy y List.mem_cons_self
   have h2 := ih (fun x hx => hy x (List.mem_cons_of_mem _ hx))
   unfold Go.Lib.joinTail at *
   rw [List.map_cons, List.flatten_cons, List.length_append, List.length_append, List.length_cons, Nat.succ_mul]
   omega
 cases xs with
 | nil => simp [Go.Lib.join_nil]
 | cons x r =>
  have h1 := h x List.mem_cons_self
  have h2 := tail r (fun y hy => h y (List.mem_cons_of_mem _ hy))
  rw [Go.Lib.join_cons, List.length_append, List.length_cons, Nat.succ_mul]
  omega
theorem runsTx_len {a : Int} {l : List S35} (h : areRun a l) (l' : List S35) (hs : ∀ x ∈ l', x ∈ l) (hl : l'.length ≤ 6) : (runsTx l').length ≤ 13000 := by
 have := join_len' (l'.map runTx) [44] 2000 (by
  intro x hx
  obtain ⟨y, hy, rfl⟩ := List.mem_map.mp hx
  exact runTx_len h.1.2 (h.2.2 y (hs y hy)))
 rw [List.length_map, List.length_singleton] at this
 have h2 : l'.length * (2000 + 1) ≤ 6 * 2001 := Nat.mul_le_mul_right _ hl
 unfold runsTx
 omega
theorem trText_l0 (a : Int) (l : List S35) (h : areRun a l) (q : Nat) : ∀ (k i : Nat), i + q = l.length → 1000000 + q < k →
  spec_trText.l0 k (tx (runsTx (l.take i))) l (l.length : Int) (i : Int) = some (tx (runsTx l)) := by
 have g := h
 obtain ⟨ha, hl, hv⟩ := g
 induction q with
 | zero =>
  intro k i hi hk
  obtain ⟨k, rfl⟩ : ∃ m, k = m + 1 := ⟨k - 1, by omega⟩
  simp only [spec_trText.l0]
  rw [if_neg (by omega), List.take_of_length_le (by omega)]
 | succ q ih =>
  intro k i hi hk
  obtain ⟨k, rfl⟩ : ∃ m, k = m + 1 := ⟨k - 1, by omega⟩
  have hlt : i < l.length := by omega
  have e1 : wrap64 ((i : Int) + 1) = ((i + 1 : Nat) : Int) := by rw [w64 (by omega)]; rfl
  have er : rd_T35 l (i : Int) = l[i] := by simp [rd_T35, hlt]
  have hx := hv l[i] (List.getElem_mem hlt)
  have hy := hx
  unfold isRun at hy
  have n1 := itoa_len l[i].f0 (by omega)
  have n2 := itoa_len l[i].f1 (by omega)
  have acc := runsTx_len h (l.take i) (fun x hx => List.mem_of_mem_take hx) (by rw [List.length_take]; omega)
  have next := ih k (i + 1) (by omega) (by omega)
  simp only [spec_trText.l0]
  rw [if_pos (by omega), if_pos (by omega), if_pos (by omega), er, e1, spec_l1Num_eq l[i].f0 (by omega) k (by omega), spec_l1Num_eq l[i].f1 (by omega) k (by omega)]
  simp only [Option.bind_some, lit62, lit44, tx_append, tx_size, List.length_append, List.length_cons, List.length_nil]
  have et : l.take (i + 1) = l.take i ++ [l[i]] := by rw [List.take_add_one, List.getElem?_eq_getElem hlt]; rfl
  by_cases z : i = 0
  ·
   subst z
   rw [if_neg (by omega), if_pos (by omega), if_pos (by omega), if_pos (by omega)]
   rw [et] at next
   have e0 : runsTx (l.take 0 ++ [l[0]]) = runsTx (l.take 0) ++ (Go.Lib.itoa l[0].f0 ++ ([62] : List UInt8) ++ Go.Lib.itoa l[0].f1) := by
    rw [List.take_zero, List.nil_append]
    unfold runsTx
    rw [List.map_cons, List.map_nil, Go.Lib.join_one, Go.Lib.join_nil]
    rfl
   rw [e0] at next
   exact next
  ·
   rw [if_pos (by omega), if_pos (by omega), if_pos (by omega), if_pos (by omega), if_pos (by omega)]
   rw [et] at next
   have e0 : runsTx (l.take i ++ [l[i]]) = runsTx (l.take i) ++ ([44] : List UInt8) ++ (Go.Lib.itoa l[i].f0 ++ ([62] : List UInt8) ++ Go.Lib.itoa l[i].f1) := by
    obtain ⟨x, r, hxr⟩ : ∃ x r, l.take i = x :: r := by
     cases hc : l.take i with
     | nil =>
      have := congrArg List.length hc
      rw [List.length_take, List.length_nil] at this
      omega
     | cons x r => exact ⟨x, r, rfl⟩
    rw [hxr]
    unfold runsTx
    rw [List.map_append, List.map_cons, List.map_cons, List.map_nil, join_snoc]
    rfl
   rw [e0] at next
   exact next
theorem spec_trText_eq (a : Int) (l : List S35) (h : areRun a l) (k : Nat) (hk : 1000010 < k) : spec_trText.f k l = some (tx (runsTx l)) := by
 have := h.2.1
 have := trText_l0 a l h l.length k 0 (by omega) (by omega)
 unfold spec_trText.f
 exact this
theorem runText_l0 (a : Int) (l : List S35) (h : areRun a l) (q : Nat) : ∀ (k i : Nat), i + q = l.length → 1000 + q < k →
  impl_RunnersText.l0 k ((l.take i).map (fun x => tx (runTx x)) ++ List.replicate q (tx [])) l (l.length : Int) (i : Int) = some (tx (runsTx l), true) := by
 have g := h
 obtain ⟨ha, hl, hv⟩ := g
 induction q with
 | zero =>
  intro k i hi hk
  obtain ⟨k, rfl⟩ : ∃ m, k = m + 1 := ⟨k - 1, by omega⟩
  have e : ((l.take i).map (fun x => tx (runTx x)) ++ List.replicate 0 (tx [])) = (l.map runTx).map tx := by
   rw [List.replicate_zero, List.append_nil, List.take_of_length_le (by omega), List.map_map]
   rfl
  have hj := runsTx_len h l (fun _ hx => hx) (by omega)
  unfold runsTx at hj
  simp only [impl_RunnersText.l0]
  rw [if_neg (by omega), e, strings_Join_eq (l.map runTx) (⟨#[44]⟩ : ByteArray) (by show (Go.Lib.join (l.map runTx) [44]).length ≤ _; omega) (by rw [List.length_map]; omega)]
  rfl
 | succ q ih =>
  intro k i hi hk
  obtain ⟨k, rfl⟩ : ∃ m, k = m + 1 := ⟨k - 1, by omega⟩
  have hlt : i < l.length := by omega
  have e1 : wrap64 ((i : Int) + 1) = ((i + 1 : Nat) : Int) := by rw [w64 (by omega)]; rfl
  have er : rd_T35 l (i : Int) = l[i] := by simp [rd_T35, hlt]
  have hx := hv l[i] (List.getElem_mem hlt)
  unfold isRun at hx
  have hlen : ((l.take i).map (fun x => tx (runTx x)) ++ List.replicate (q + 1) (tx [])).length = l.length := by
   rw [List.length_append, List.length_map, List.length_take, List.length_replicate]
   omega
  have es : ((l.take i).map (fun x => tx (runTx x)) ++ List.replicate (q + 1) (tx [])).set (i : Int).toNat (tx (runTx l[i])) = (l.take (i + 1)).map (fun x => tx (runTx x)) ++ List.replicate q (tx []) := by
   have hi2 : ((l.take i).map (fun x => tx (runTx x))).length = i := by rw [List.length_map, List.length_take]; omega
   rw [Int.toNat_natCast, List.set_append_right _ _ (by rw [hi2]; exact Nat.le_refl _), hi2, Nat.sub_self, List.replicate_succ, List.set_cons_zero, List.take_add_one, List.getElem?_eq_getElem hlt, List.map_append]
   simp
  have next := ih k (i + 1) (by omega) (by omega)
  rw [← es] at next
  have ej : Go.Lib.join ([l[i].f0, l[i].f1].map Go.Lib.itoa) (⟨#[62]⟩ : ByteArray).data.toList = runTx l[i] := by
   rw [List.map_cons, Go.Lib.join_cons]
   simp [Go.Lib.joinTail, runTx]
  simp only [impl_RunnersText.l0]
  rw [if_pos (by omega), if_pos (by omega), if_pos (by omega), er, impl_joinNumbers_eq [l[i].f0, l[i].f1] (⟨#[62]⟩ : ByteArray) (by simp) (by
   intro x hx2
   simp only [List.mem_cons, List.not_mem_nil, or_false] at hx2
   rcases hx2 with rfl | rfl <;> omega) (by show 1 ≤ 1000; omega) k (by omega), ej]
  simp only [Option.bind_some]
  rw [hlen, if_pos (by omega), e1]
  exact next
theorem impl_RunnersText_yes (l : List S35) (h : areRun 1000 l) (k : Nat) (hk : 2000 < k) : impl_RunnersText.f k l = some (tx (runsTx l), true) := by
 have hl := h.2.1
 have := runText_l0 1000 l h l.length k 0 (by omega) (by omega)
 rw [List.take_zero, List.map_nil, List.nil_append] at this
 unfold impl_RunnersText.f
 rw [impl_AreRunners_eq, decide_eq_true h]
 simp only [Option.bind_some, if_true]
 rw [if_pos (by omega), if_pos (by omega), Int.toNat_natCast]
 exact this
theorem impl_RunnersText_no (l : List S35) (h : ¬ areRun 1000 l) (k : Nat) : impl_RunnersText.f k l = some (tx [], false) := by
 unfold impl_RunnersText.f
 rw [impl_AreRunners_eq, decide_eq_false h]
 rfl
/-- what reading numbers off a text's pieces tells -/
def okN (p : List UInt8) : Bool := (readN (tx p)).2
def valN (p : List UInt8) : Int := (readN (tx p)).1
def readNs (b : UInt8) (l : List UInt8) : List Int × Bool := if (sp b l).all okN = true then ((sp b l).map valN, true) else ([], false)
theorem strings_Split_eq (s : ByteArray) (b : UInt8) (hs : s.data.toList.length < 4294967281) : strings_Split.f s (⟨#[b]⟩ : ByteArray) = some ((sp b s.data.toList).map tx) := by
 have hz : s.size = s.data.toList.length := by rw [Array.length_toList]; rfl
 have e := Go.Lib.splitB_data (⟨#[b]⟩ : ByteArray) 0 (Go.Lib.countB s (⟨#[b]⟩ : ByteArray)) s
 have e2 : Go.Lib.splitK (⟨#[b]⟩ : ByteArray).data.toList 0 (Go.Lib.countB s (⟨#[b]⟩ : ByteArray)) s.data.toList = sp b s.data.toList := splitK_sp b s.data.toList
 rw [e2] at e
 unfold strings_Split.f
 rw [if_pos ⟨by omega, Nat.le_refl _⟩, ← e, List.map_map]
 congr 1
 conv => lhs; rw [← List.map_id (Go.Lib.splitB _ _ _ _)]
 exact List.map_congr_left fun x _ => (tx_of x).symm
theorem readNumbers_l0 (ps : List (List UInt8)) (hl : ps.length ≤ 17592186044415) (hp : ∀ p ∈ ps, p.length ≤ 281474976710656) (q : Nat) : ∀ (k i : Nat), i + q = ps.length → q < k →
  impl_readNumbers.l0 k ((ps.take i).map valN) (ps.map tx) ((ps.map tx).length : Int) (i : Int) = some (if (ps.drop i).all okN = true then (ps.map valN, true) else ([], false)) := by
 induction q with
 | zero =>
  intro k i hi hk
  obtain ⟨k, rfl⟩ : ∃ m, k = m + 1 := ⟨k - 1, by omega⟩
  simp only [impl_readNumbers.l0]
  rw [List.length_map, if_neg (by omega), List.take_of_length_le (by omega), List.drop_of_length_le (by omega)]
  rfl
 | succ q ih =>
  intro k i hi hk
  obtain ⟨k, rfl⟩ : ∃ m, k = m + 1 := ⟨k - 1, by omega⟩
  have hlt : i < ps.length := by omega
  have e1 : wrap64 ((i : Int) + 1) = ((i + 1 : Nat) : Int) := by rw [w64 (by omega)]; rfl
  have er : rdOf ByteArray.empty (ps.map tx) (i : Int) = tx ps[i] := by simp [rdOf, hlt]
  have hsz : (tx ps[i]).size ≤ 281474976710656 := by rw [tx_size]; exact hp _ (List.getElem_mem hlt)
  have next := ih k (i + 1) (by omega) (by omega)
  have et : ps.take (i + 1) = ps.take i ++ [ps[i]] := by rw [List.take_add_one, List.getElem?_eq_getElem hlt]; rfl
  rw [et, List.map_append, List.length_map] at next
  simp only [impl_readNumbers.l0, impl_readNumber.f]
  rw [List.length_map, if_pos (by omega), if_pos (by omega), if_pos (by omega), er, if_pos hsz, List.drop_eq_getElem_cons hlt, List.all_cons]
  simp only [Option.bind_some]
  by_cases z : okN ps[i] = true
  ·
   have z2 : (readN (tx ps[i])).2 = true := z
   rw [if_pos z2, if_pos (by rw [List.length_map, List.length_take]; omega), e1, z, Bool.true_and]
   exact next
  ·
   have z2 : ¬ (readN (tx ps[i])).2 = true := z
   rw [if_neg z2, if_neg (by intro e; exact z (Bool.and_eq_true _ _ |>.mp e).1)]
theorem impl_readNumbers_eq (s : ByteArray) (b : UInt8) (hs : s.data.toList.length ≤ 1048576) (k : Nat) (hk : 1048580 < k) : impl_readNumbers.f k s (⟨#[b]⟩ : ByteArray) = some (readNs b s.data.toList) := by
 have hn := sp_len b s.data.toList
 have := readNumbers_l0 (sp b s.data.toList) (by omega) (fun p hp => by have := sp_small b s.data.toList p hp; omega) (sp b s.data.toList).length k 0 (by omega) (by omega)
 unfold impl_readNumbers.f
 rw [strings_Split_eq s b (by omega)]
 exact this
theorem readNs_len (b : UInt8) (l : List UInt8) (h : (readNs b l).2 = true) : (readNs b l).1 = (sp b l).map valN ∧ (sp b l).all okN = true := by
 unfold readNs at h ⊢
 by_cases z : (sp b l).all okN = true
 ·
  rw [if_pos z]
  exact ⟨rfl, z⟩
 ·
  rw [if_neg z] at h
  cases h
/-- a piece told as a number is read as that number -/
theorem ok_of_num (p : List UInt8) (h : 0 ≤ num p) : okN p = true ∧ valN p = num p := by
 have := readN_num (tx p) (by rw [tx_data]; exact h)
 rw [tx_data] at this
 unfold okN valN
 rw [this]
 exact ⟨rfl, rfl⟩
theorem num_of_ok (p : List UInt8) (h : okN p = true) (hv : 0 ≤ valN p ∧ valN p < 1000000) : num p = valN p := by
 have := num_readN (tx p) (valN p) (by unfold okN at h; unfold valN; rw [← h]) hv
 rwa [tx_data] at this
/-- the decimal of a number, as a length -/
theorem piece_len (p : List UInt8) (k : Nat) (hk : 1 ≤ k) (h : 0 ≤ num p ∧ num p < 10 ^ k) : p.length ≤ k := by
 obtain ⟨n, hn⟩ := Int.eq_ofNat_of_zero_le h.1
 obtain ⟨h1, h2⟩ := num_yes p h.1
 rw [hn] at h1 h
 rw [itoa_nat] at h1
 rw [← h1]
 exact dec_len6 n k (by have := h.2; exact_mod_cast this) hk
theorem laws_qRises_l0 (l : List Int) (hl : l.length ≤ 1000000000) (hp : l.Pairwise (· < ·)) (d : Nat) : ∀ (k i : Nat), 1 ≤ i → l.length ≤ i + d → d < k → laws_qRises.l0 k l (i : Int) = some true := by
 induction d with
 | zero =>
  intro k i h1 hi hk
  obtain ⟨k, rfl⟩ : ∃ m, k = m + 1 := ⟨k - 1, by omega⟩
  simp only [laws_qRises.l0]
  rw [if_neg (by omega)]
 | succ d ih =>
  intro k i h1 hi hk
  obtain ⟨k, rfl⟩ : ∃ m, k = m + 1 := ⟨k - 1, by omega⟩
  simp only [laws_qRises.l0]
  by_cases hlt : i < l.length
  ·
   have e1 : wrap64 ((i : Int) + 1) = ((i + 1 : Nat) : Int) := by rw [w64 (by omega)]; rfl
   have e2 : wrap64 ((i : Int) - 1) = ((i - 1 : Nat) : Int) := by rw [w64 (by omega)]; omega
   have r1 : rd l (i : Int) = l[i] := by simp [rd, hlt]
   have hlt2 : i - 1 < l.length := by omega
   have r2 : rd l ((i - 1 : Nat) : Int) = l[i - 1] := by unfold rd; rw [Int.toNat_natCast, List.getD_eq_getElem?_getD, List.getElem?_eq_getElem hlt2]; rfl
   have hpp := (List.pairwise_iff_getElem.mp hp) (i - 1) i hlt2 hlt (by omega)
   rw [if_pos (by omega), e2, if_pos (by omega), if_pos (by omega), if_pos (by omega), r1, r2, if_neg (by omega), e1]
   exact ih k (i + 1) (by omega) (by omega) (by omega)
  ·
   rw [if_neg (by omega)]
theorem laws_qRises_eq (l : List Int) (hl : l.length ≤ 1000000000) (hp : l.Pairwise (· < ·)) (k : Nat) (hk : l.length < k) : laws_qRises.f k l = some true := by
 unfold laws_qRises.f
 exact laws_qRises_l0 l hl hp l.length k 1 (Nat.le_refl 1) (by omega) hk
theorem low_gcd (a b : Int) (hb : 0 < b) : Int.gcd (lowN a b) (lowD a b) = 1 := by
 unfold lowN lowD
 exact Int.gcd_ediv_gcd_ediv_gcd (Int.gcd_pos_of_ne_zero_right a (by omega))
theorem low_eq {a b c d : Int} (hb : 0 < b) (hd : 0 < d) (h : a * d = c * b) : lowN a b = lowN c d ∧ lowD a b = lowD c d := by
 have s1 := low_scale a b d hd
 have s2 := low_scale c d b hb
 rw [← s1.1, ← s1.2, ← s2.1, ← s2.2, h, Int.mul_comm b d]
 exact ⟨rfl, rfl⟩
theorem low_cross (a b : Int) : lowN a b * b = a * lowD a b := by
 have e1 := Int.ediv_mul_cancel (Int.gcd_dvd_left a b)
 have e2 := Int.ediv_mul_cancel (Int.gcd_dvd_right a b)
 unfold lowN lowD
 generalize a / (Int.gcd a b : Int) = u at *
 generalize b / (Int.gcd a b : Int) = v at *
 generalize (Int.gcd a b : Int) = g at *
 have : u * (v * g) = u * g * v := by rw [Int.mul_assoc, Int.mul_comm v g]
 rw [e1, e2] at this
 exact this
theorem low_nonneg {a b : Int} (ha : 0 ≤ a) (hb : 0 < b) : 0 ≤ lowN a b ∧ lowN a b ≤ a := by
 unfold lowN
 exact ⟨Int.ediv_nonneg ha (by omega), Int.ediv_le_self _ ha⟩
theorem spec_trList_eq (a : Int) (l : List S35) (hl : l.length ≤ 1000000000) (k : Nat) (hk : l.length < k) : spec_trList.f k a l = some (decide (areRun a l)) := by
 obtain ⟨b, h1, h2⟩ := spec_trList_iff a l hl k hk
 rw [h1]
 congr 1
 rw [Bool.eq_iff_iff, decide_eq_true_eq, h2]
 unfold areRun
 constructor
 ·
  rintro ⟨y, z⟩
  have ⟨q, hq⟩ : ∃ q, q ∈ l := List.exists_mem_of_length_pos (by omega)
  exact ⟨(z q hq).1, y, fun q hq => (z q hq).2⟩
 ·
  rintro ⟨x, y, z⟩
  exact ⟨y, fun q hq => ⟨x, z q hq⟩⟩
theorem spec_OrderOnTrack_yes (a : Int) (l : List S35) (t : Int) (h : areRun a l) (ht : 0 ≤ t ∧ t ≤ 1000000) (k : Nat) (hk : 100 < k) : spec_OrderOnTrack.f k a l t = some (orderN l t, true) := by
 have hl := h.2.1
 obtain ⟨k, rfl⟩ : ∃ m, k = m + 1 := ⟨k - 1, by omega⟩
 unfold spec_OrderOnTrack.f
 rw [spec_trList_eq a l (by omega) (k + 1) (by omega), decide_eq_true h, spec_trTime_eq, decide_eq_true ht]
 simp only [Option.bind_some, if_true, spec_OrderOnTrack.j0, Bool.not_true, Bool.false_eq_true, if_false]
 exact spec_Order_outer l t hl l.length k 0 (by omega) (by omega)
theorem spec_OrderOnTrack_no (a : Int) (l : List S35) (t : Int) (hl : l.length ≤ 1000000000) (h : ¬ (areRun a l ∧ (0 ≤ t ∧ t ≤ 1000000))) (k : Nat) (hk : l.length < k) : spec_OrderOnTrack.f k a l t = some ([], false) := by
 obtain ⟨k, rfl⟩ : ∃ m, k = m + 1 := ⟨k - 1, by omega⟩
 unfold spec_OrderOnTrack.f
 rw [spec_trList_eq a l hl (k + 1) (by omega)]
 by_cases z : areRun a l
 ·
  have ht : ¬ (0 ≤ t ∧ t ≤ 1000000) := fun y => h ⟨z, y⟩
  rw [decide_eq_true z, spec_trTime_eq, decide_eq_false ht]
  simp only [Option.bind_some, if_true, spec_OrderOnTrack.j0, Bool.not_false]
 ·
  rw [decide_eq_false z]
  simp only [Option.bind_some, Bool.false_eq_true, if_false, spec_OrderOnTrack.j0, if_true]
theorem impl_OrderOnTrack_yes (a : Int) (l : List S35) (t : Int) (h : areRun a l) (ht : 0 ≤ t ∧ t ≤ 1000000) : impl_OrderOnTrack.f a l t = some (orderN l t, true) := by
 unfold impl_OrderOnTrack.f
 rw [impl_AreRunners_eq, decide_eq_true h, impl_isRunTime_eq, decide_eq_true ht]
 rfl
theorem impl_OrderOnTrack_no (a : Int) (l : List S35) (t : Int) (h : ¬ (areRun a l ∧ (0 ≤ t ∧ t ≤ 1000000))) : impl_OrderOnTrack.f a l t = some ([], false) := by
 unfold impl_OrderOnTrack.f
 rw [impl_AreRunners_eq]
 by_cases z : areRun a l
 ·
  have ht : ¬ (0 ≤ t ∧ t ≤ 1000000) := fun y => h ⟨z, y⟩
  rw [decide_eq_true z, impl_isRunTime_eq, decide_eq_false ht]
  rfl
 ·
  rw [decide_eq_false z]
  rfl
def asked (a : Int) (l : List S35) (n : Int) : Prop := areRun a l ∧ 1 < l.length ∧ 0 ≤ n ∧ n ≤ (l.length : Int) - 1
instance (a : Int) (l : List S35) (n : Int) : Decidable (asked a l n) := by unfold asked; infer_instance
theorem spec_trAsked_eq (a : Int) (l : List S35) (n : Int) (hl : l.length ≤ 1000000000) (k : Nat) (hk : l.length < k) : spec_trAsked.f k a l n = some (decide (asked a l n)) := by
 unfold spec_trAsked.f
 rw [spec_trList_eq a l hl k hk, w64 (by omega), spec_l1In_eq]
 simp only [Option.bind_some]
 by_cases h1 : areRun a l
 ·
  by_cases h2 : (l.length : Int) > 1
  ·
   rw [decide_eq_true h1, if_pos rfl, if_pos h2]
   exact congrArg some (decide_eq_decide.mpr ⟨fun z => ⟨h1, by omega, z⟩, fun z => z.2.2⟩)
  ·
   rw [decide_eq_true h1, if_pos rfl, if_neg h2]
   exact congrArg some (decide_eq_false (fun z => by have := z.2.1; omega)).symm
 ·
  rw [decide_eq_false h1, if_neg Bool.false_ne_true]
  exact congrArg some (decide_eq_false (fun z => h1 z.1)).symm
theorem impl_areRunnersOf_eq (a : Int) (l : List S35) (n : Int) (hl : l.length ≤ 1000000000) : impl_areRunnersOf.f a l n = some (decide (asked a l n)) := by
 unfold impl_areRunnersOf.f
 rw [impl_AreRunners_eq, w64 (by omega), impl_within_eq]
 simp only [Option.bind_some]
 by_cases h1 : areRun a l
 ·
  by_cases h2 : (l.length : Int) > 1
  ·
   rw [decide_eq_true h1, if_pos rfl, if_pos h2]
   exact congrArg some (decide_eq_decide.mpr ⟨fun z => ⟨h1, by omega, z⟩, fun z => z.2.2⟩)
  ·
   rw [decide_eq_true h1, if_pos rfl, if_neg h2]
   exact congrArg some (decide_eq_false (fun z => by have := z.2.1; omega)).symm
 ·
  rw [decide_eq_false h1, if_neg Bool.false_ne_true]
  exact congrArg some (decide_eq_false (fun z => h1 z.1)).symm
/-- the first time at which N is greatest, from a time on -/
def lt (N : Int → Int) : Nat → Int → Int → Int
 | 0, best, _ => best
 | d + 1, best, t => lt N d (if N t > N best then t else best) (t + 1)
theorem spec_lonely_l0 (a : Int) (ha : 2 ≤ a ∧ a ≤ 1000) (l : List S35) (hl : l.length ≤ 6) (hv : ∀ x ∈ l, isRun a x.f0 x.f1) (n : Nat) (hn : n < l.length) (d : Nat) : ∀ (k : Nat) (best t : Int), t + d = a / gf a l → d + 400 < k → 0 ≤ best ∧ best ≤ 1000 → 0 ≤ t →
  spec_LonelyTime.l0 k a l (n : Int) best t = some (lt (fun t => nst a t n l[n] a 0 l) d best t, true) := by
 have gr := gf_range l a (by omega)
 have p1 := Int.ediv_le_self (gf a l) (show 0 ≤ a by omega)
 induction d with
 | zero =>
  intro k best t hd hk h0 ht
  obtain ⟨k, rfl⟩ : ∃ m, k = m + 1 := ⟨k - 1, by omega⟩
  simp only [spec_LonelyTime.l0]
  rw [spec_trPeriod_eq a ha l hl (fun x hx => (hv x hx).2) k (by omega)]
  simp only [Option.bind_some]
  rw [if_neg (by omega)]
  rfl
 | succ d ih =>
  intro k best t hd hk h0 ht
  obtain ⟨k, rfl⟩ : ∃ m, k = m + 1 := ⟨k - 1, by omega⟩
  simp only [spec_LonelyTime.l0]
  rw [spec_trPeriod_eq a ha l hl (fun x hx => (hv x hx).2) k (by omega)]
  simp only [Option.bind_some]
  rw [if_pos (by omega), spec_trNearest_eq a ha l hl hv n hn t (by omega) k (by omega)]
  simp only [Option.bind_some]
  rw [spec_trNearest_eq a ha l hl hv n hn best (by omega) k (by omega)]
  simp only [Option.bind_some]
  rw [w64 (x := t + 1) (by omega)]
  show _ = some (lt _ d (if _ > _ then t else best) (t + 1), true)
  by_cases z : nst a t n l[n] a 0 l > nst a best n l[n] a 0 l
  ·
   rw [if_pos z, if_pos z]
   exact ih k t (t + 1) (by omega) (by omega) (by omega) (by omega)
  ·
   rw [if_neg z, if_neg z]
   exact ih k best (t + 1) (by omega) (by omega) (by omega) (by omega)
theorem impl_lonely_l0 (a : Int) (ha : 2 ≤ a ∧ a ≤ 1000) (l : List S35) (hl : l.length ≤ 6) (hv : ∀ x ∈ l, isRun a x.f0 x.f1) (n : Nat) (hn : n < l.length) (p : Int) (hp : p ≤ 1000) (d : Nat) : ∀ (k : Nat) (best t : Int), t + d = p → d + 400 < k → 0 ≤ t →
  impl_LonelyTime.l0 k a l (n : Int) best (nst a best n l[n] a 0 l) p t = some (lt (fun t => nst a t n l[n] a 0 l) d best t, true) := by
 induction d with
 | zero =>
  intro k best t hd hk ht
  obtain ⟨k, rfl⟩ : ∃ m, k = m + 1 := ⟨k - 1, by omega⟩
  simp only [impl_LonelyTime.l0]
  rw [if_neg (by omega)]
  rfl
 | succ d ih =>
  intro k best t hd hk ht
  obtain ⟨k, rfl⟩ : ∃ m, k = m + 1 := ⟨k - 1, by omega⟩
  simp only [impl_LonelyTime.l0]
  rw [if_pos (by omega), impl_nearestOther_eq a ha l hl hv n hn t (by omega) k (by omega)]
  simp only [Option.bind_some]
  rw [w64 (x := t + 1) (by omega)]
  show _ = some (lt _ d (if _ > _ then t else best) (t + 1), true)
  by_cases z : nst a t n l[n] a 0 l > nst a best n l[n] a 0 l
  ·
   rw [if_pos z, if_pos z]
   exact ih k t (t + 1) (by omega) (by omega) (by omega)
  ·
   rw [if_neg z, if_neg z]
   exact ih k best (t + 1) (by omega) (by omega) (by omega)
/-- a quotient rounded up -/
def ceil (L v : Int) : Int := (L + v - 1) / v
theorem ceil_le (L v m : Int) (hv : 1 ≤ v) : ceil L v ≤ m ↔ L ≤ v * m := by
 unfold ceil
 rw [← Int.lt_add_one_iff, Int.ediv_lt_iff_lt_mul (by omega), Int.add_mul, Int.mul_comm m v]
 omega
theorem ceil_mono (L u v : Int) (hu : 1 ≤ u) (h : u ≤ v) (hL : 0 ≤ L) : ceil L v ≤ ceil L u := by
 rw [ceil_le L v _ (by omega)]
 have h1 := (ceil_le L u (ceil L u) hu).mp (Int.le_refl _)
 have h2 : 0 ≤ ceil L u := Int.ediv_nonneg (by omega) (by omega)
 have := Int.mul_le_mul_of_nonneg_right h h2
 omega
theorem ceil_range (L v : Int) (hv : 1 ≤ v) (hL : 0 ≤ L ∧ L ≤ 100000) : 0 ≤ ceil L v ∧ ceil L v ≤ 100000 := by
 refine ⟨Int.ediv_nonneg (by omega) (by omega), ?_⟩
 rw [ceil_le L v _ hv]
 have := Int.mul_le_mul_of_nonneg_right hv (show (0 : Int) ≤ 100000 by omega)
 omega
def least (L b : Int) : List S35 → Int
 | [] => b
 | x :: r => least L (if b < ceil L x.f1 then b else ceil L x.f1) r
def most (b : Int) : List S35 → Int
 | [] => b
 | x :: r => most (mx b x.f1) r
theorem most_range (l : List S35) (hv : ∀ x ∈ l, 1 ≤ x.f1 ∧ x.f1 ≤ 100) : ∀ b : Int, 0 ≤ b ∧ b ≤ 100 → b ≤ most b l ∧ most b l ≤ 100 := by
 induction l with
 | nil => exact fun b h => ⟨Int.le_refl b, h.2⟩
 | cons x r ih =>
  intro b h
  have hx := hv x (List.mem_cons_self)
  have m : b ≤ mx b x.f1 ∧ mx b x.f1 ≤ 100 ∧ 0 ≤ mx b x.f1 := by
   unfold mx
   split <;> omega
  have := ih (fun y hy => hv y (List.mem_cons_of_mem _ hy)) (mx b x.f1) ⟨m.2.2, m.2.1⟩
  exact ⟨Int.le_trans m.1 this.1, this.2⟩
theorem least_most (L : Int) (hL : 0 ≤ L ∧ L ≤ 100000) (l : List S35) (hv : ∀ x ∈ l, 1 ≤ x.f1 ∧ x.f1 ≤ 100) : ∀ u : Int, 1 ≤ u → least L (ceil L u) l = ceil L (most u l) := by
 induction l with
 | nil => exact fun u _ => rfl
 | cons x r ih =>
  intro u hu
  have hx := hv x (List.mem_cons_self)
  have e : (if ceil L u < ceil L x.f1 then ceil L u else ceil L x.f1) = ceil L (mx u x.f1) := by
   unfold mx
   by_cases h : u < x.f1
   ·
    have := ceil_mono L u x.f1 hu (by omega) hL.1
    rw [if_pos h]
    split <;> omega
   ·
    have := ceil_mono L x.f1 u hx.1 (by omega) hL.1
    rw [if_neg h]
    split <;> omega
  show least L (if ceil L u < ceil L x.f1 then ceil L u else ceil L x.f1) r = ceil L (most (mx u x.f1) r)
  rw [e]
  refine ih (fun y hy => hv y (List.mem_cons_of_mem _ hy)) _ ?_
  unfold mx
  split <;> omega
def winl (c : Int → Bool) (i : Nat) : List S35 → List Int
 | [] => []
 | x :: r => (if c x.f1 = true then [(i : Int)] else []) ++ winl c (i + 1) r
theorem winl_length (c : Int → Bool) (l : List S35) : ∀ i, (winl c i l).length ≤ l.length := by
 induction l with
 | nil => exact fun _ => Nat.le_refl 0
 | cons x r ih =>
  intro i
  have := ih (i + 1)
  unfold winl
  rw [List.length_append, List.length_cons]
  split <;> simp only [List.length_cons, List.length_nil] <;> omega
theorem spec_win_l1 (a p B : Int) (ha : 2 ≤ a ∧ a ≤ 1000) (hp : 1 ≤ p ∧ p ≤ 100) (hB : 0 ≤ B ∧ B ≤ 100000) (l : List S35) (hl : l.length ≤ 6) (hv : ∀ x ∈ l, 1 ≤ x.f1 ∧ x.f1 ≤ 100) (d : Nat) : ∀ (k i : Nat) (acc : List Int), i + d = l.length → d < k → acc.length ≤ i →
  spec_WinnerOfLaps.l1 k a p B acc l (l.length : Int) (i : Int) = some (acc ++ winl (fun v => decide (v * B ≥ p * a)) i (l.drop i), true) := by
 induction d with
 | zero =>
  intro k i acc hi hk hacc
  obtain ⟨k, rfl⟩ : ∃ m, k = m + 1 := ⟨k - 1, by omega⟩
  simp only [spec_WinnerOfLaps.l1]
  rw [if_neg (by omega), List.drop_of_length_le (by omega)]
  simp [winl]
 | succ d ih =>
  intro k i acc hi hk hacc
  obtain ⟨k, rfl⟩ : ∃ m, k = m + 1 := ⟨k - 1, by omega⟩
  have hlt : i < l.length := by omega
  have er : rd_T35 l (i : Int) = l[i] := by simp [rd_T35, hlt]
  have e1 : wrap64 ((i : Int) + 1) = ((i + 1 : Nat) : Int) := by rw [w64 (by omega)]; rfl
  have hx := hv l[i] (List.getElem_mem hlt)
  have q1 := bm (A := 100) (B := 100000) (a := l[i].f1) (b := B) (by omega) hB
  have q2 := bm (A := 100) (B := 1000) (a := p) (b := a) (by omega) (by omega)
  simp only [spec_WinnerOfLaps.l1]
  rw [if_pos (by omega), if_pos (by omega), if_pos (by omega), er, e1, w64 (x := l[i].f1 * B) (by omega), w64 (x := p * a) (by omega), List.drop_eq_getElem_cons hlt]
  show _ = some (acc ++ ((if decide (l[i].f1 * B ≥ p * a) = true then [(i : Int)] else []) ++ winl _ (i + 1) _), true)
  by_cases z : l[i].f1 * B ≥ p * a
  ·
   rw [if_pos z, if_pos (by omega), decide_eq_true z, if_pos rfl, ih k (i + 1) _ (by omega) (by omega) (by rw [List.length_append]; simp only [List.length_cons, List.length_nil]; omega), List.append_assoc]
  ·
   rw [if_neg z, decide_eq_false z, if_neg Bool.false_ne_true, List.nil_append]
   exact ih k (i + 1) _ (by omega) (by omega) (by omega)
theorem impl_win_l1 (a p B : Int) (ha : 2 ≤ a ∧ a ≤ 1000) (hp : 1 ≤ p ∧ p ≤ 100) (hB : 0 ≤ B ∧ B ≤ 100000) (l : List S35) (hl : l.length ≤ 6) (hv : ∀ x ∈ l, 1 ≤ x.f1 ∧ x.f1 ≤ 100) (d : Nat) : ∀ (k i : Nat) (acc : List Int), i + d = l.length → d < k → acc.length ≤ i →
  impl_WinnerOfLaps.l1 k a p B acc l (l.length : Int) (i : Int) = some (acc ++ winl (fun v => decide (v * B ≥ p * a)) i (l.drop i), true) := by
 induction d with
 | zero =>
  intro k i acc hi hk hacc
  obtain ⟨k, rfl⟩ : ∃ m, k = m + 1 := ⟨k - 1, by omega⟩
  simp only [impl_WinnerOfLaps.l1]
  rw [if_neg (by omega), List.drop_of_length_le (by omega)]
  simp [winl]
 | succ d ih =>
  intro k i acc hi hk hacc
  obtain ⟨k, rfl⟩ : ∃ m, k = m + 1 := ⟨k - 1, by omega⟩
  have hlt : i < l.length := by omega
  have er : rd_T35 l (i : Int) = l[i] := by simp [rd_T35, hlt]
  have e1 : wrap64 ((i : Int) + 1) = ((i + 1 : Nat) : Int) := by rw [w64 (by omega)]; rfl
  have hx := hv l[i] (List.getElem_mem hlt)
  have q1 := bm (A := 100) (B := 100000) (a := l[i].f1) (b := B) (by omega) hB
  have d0 := Int.ediv_nonneg q1.1 (show 0 ≤ a by omega)
  have d1 := Int.ediv_le_self a q1.1
  have eq1 : wrap64 (Int.tdiv (l[i].f1 * B) a) = l[i].f1 * B / a := by
   rw [Int.tdiv_eq_ediv_of_nonneg q1.1, w64 (by omega)]
  have iff1 : l[i].f1 * B / a ≥ p ↔ l[i].f1 * B ≥ p * a := Int.le_ediv_iff_mul_le (by omega)
  simp only [impl_WinnerOfLaps.l1]
  rw [if_pos (by omega), if_pos (by omega), if_pos (by omega), if_neg (by omega), er, e1, w64 (x := l[i].f1 * B) (by omega), eq1, List.drop_eq_getElem_cons hlt]
  show _ = some (acc ++ ((if decide (l[i].f1 * B ≥ p * a) = true then [(i : Int)] else []) ++ winl _ (i + 1) _), true)
  by_cases z : l[i].f1 * B ≥ p * a
  ·
   rw [if_pos (iff1.mpr z), if_pos (by omega), decide_eq_true z, if_pos rfl, ih k (i + 1) _ (by omega) (by omega) (by rw [List.length_append]; simp only [List.length_cons, List.length_nil]; omega), List.append_assoc]
  ·
   rw [if_neg (fun y => z (iff1.mp y)), decide_eq_false z, if_neg Bool.false_ne_true, List.nil_append]
   exact ih k (i + 1) _ (by omega) (by omega) (by omega)
theorem spec_win_l0 (a p : Int) (ha : 2 ≤ a ∧ a ≤ 1000) (hp : 1 ≤ p ∧ p ≤ 100) (l : List S35) (hl : l.length ≤ 6) (hv : ∀ x ∈ l, 1 ≤ x.f1 ∧ x.f1 ≤ 100) (d : Nat) : ∀ (k i : Nat) (b : Int), i + d = l.length → d + 20 < k →
  ∃ k', 10 < k' ∧ spec_WinnerOfLaps.l0 k a l p b l (l.length : Int) (i : Int) = spec_WinnerOfLaps.l1 k' a p (least (p * a) b (l.drop i)) [] l (l.length : Int) 0 := by
 have q2 := bm (A := 100) (B := 1000) (a := p) (b := a) (by omega) (by omega)
 induction d with
 | zero =>
  intro k i b hi hk
  obtain ⟨k, rfl⟩ : ∃ m, k = m + 1 := ⟨k - 1, by omega⟩
  refine ⟨k, by omega, ?_⟩
  simp only [spec_WinnerOfLaps.l0]
  rw [if_neg (by omega), List.drop_of_length_le (by omega)]
  rfl
 | succ d ih =>
  intro k i b hi hk
  obtain ⟨k, rfl⟩ : ∃ m, k = m + 1 := ⟨k - 1, by omega⟩
  have hlt : i < l.length := by omega
  have er : rd_T35 l (i : Int) = l[i] := by simp [rd_T35, hlt]
  have e1 : wrap64 ((i : Int) + 1) = ((i + 1 : Nat) : Int) := by rw [w64 (by omega)]; rfl
  have hx := hv l[i] (List.getElem_mem hlt)
  have cr := ceil_range (p * a) l[i].f1 hx.1 q2
  have ec : wrap64 (Int.tdiv (p * a + l[i].f1 - 1) l[i].f1) = ceil (p * a) l[i].f1 := by
   rw [Int.tdiv_eq_ediv_of_nonneg (by omega)]
   exact w64 (by unfold ceil at cr; omega)
  obtain ⟨k', h1, h2⟩ := ih k (i + 1) (if b < ceil (p * a) l[i].f1 then b else ceil (p * a) l[i].f1) (by omega) (by omega)
  refine ⟨k', h1, ?_⟩
  simp only [spec_WinnerOfLaps.l0]
  rw [if_pos (by omega), if_pos (by omega), if_pos (by omega), er, if_neg (by omega), e1, w64 (x := p * a) (by omega), w64 (x := p * a + l[i].f1) (by omega), w64 (x := p * a + l[i].f1 - 1) (by omega), ec, spec_l1Least_eq, List.drop_eq_getElem_cons hlt]
  simp only [Option.bind_some]
  exact h2
theorem impl_win_l0 (a p : Int) (ha : 2 ≤ a ∧ a ≤ 1000) (hp : 1 ≤ p ∧ p ≤ 100) (l : List S35) (hl : l.length ≤ 6) (hv : ∀ x ∈ l, 1 ≤ x.f1 ∧ x.f1 ≤ 100) (d : Nat) : ∀ (k i : Nat) (b : Int), i + d = l.length → d + 20 < k → 0 ≤ b ∧ b ≤ 100 → 0 < most b (l.drop i) →
  ∃ k', 10 < k' ∧ impl_WinnerOfLaps.l0 k a l p b l (l.length : Int) (i : Int) = impl_WinnerOfLaps.l1 k' a p (ceil (p * a) (most b (l.drop i))) [] l (l.length : Int) 0 := by
 have q2 := bm (A := 100) (B := 1000) (a := p) (b := a) (by omega) (by omega)
 induction d with
 | zero =>
  intro k i b hi hk hb hpos
  obtain ⟨k, rfl⟩ : ∃ m, k = m + 1 := ⟨k - 1, by omega⟩
  refine ⟨k, by omega, ?_⟩
  rw [List.drop_of_length_le (by omega)] at hpos ⊢
  change 0 < b at hpos
  have cr := ceil_range (p * a) b (by omega) q2
  have ec : wrap64 (Int.tdiv (p * a + b - 1) b) = ceil (p * a) b := by
   rw [Int.tdiv_eq_ediv_of_nonneg (by omega)]
   exact w64 (by unfold ceil at cr; omega)
  simp only [impl_WinnerOfLaps.l0]
  rw [if_neg (by omega), if_neg (by omega), w64 (x := p * a) (by omega), w64 (x := p * a + b) (by omega), w64 (x := p * a + b - 1) (by omega), ec]
  rfl
 | succ d ih =>
  intro k i b hi hk hb hpos
  obtain ⟨k, rfl⟩ : ∃ m, k = m + 1 := ⟨k - 1, by omega⟩
  have hlt : i < l.length := by omega
  have er : rd_T35 l (i : Int) = l[i] := by simp [rd_T35, hlt]
  have e1 : wrap64 ((i : Int) + 1) = ((i + 1 : Nat) : Int) := by rw [w64 (by omega)]; rfl
  have hx := hv l[i] (List.getElem_mem hlt)
  rw [List.drop_eq_getElem_cons hlt] at hpos ⊢
  have m : 0 ≤ mx b l[i].f1 ∧ mx b l[i].f1 ≤ 100 := by
   unfold mx
   split <;> omega
  obtain ⟨k', h1, h2⟩ := ih k (i + 1) (mx b l[i].f1) (by omega) (by omega) m hpos
  refine ⟨k', h1, ?_⟩
  simp only [impl_WinnerOfLaps.l0]
  rw [if_pos (by omega), if_pos (by omega), if_pos (by omega), er, e1]
  exact h2
theorem spec_RunnersText_yes (l : List S35) (h : areRun 1000 l) (k : Nat) (hk : 1000010 < k) : spec_RunnersText.f k l = some (tx (runsTx l), true) := by
 have hl := h.2.1
 unfold spec_RunnersText.f
 rw [spec_trList_eq 1000 l (by omega) k (by omega), decide_eq_true h]
 simp only [Option.bind_some, if_true]
 rw [spec_trText_eq 1000 l h k hk]
 rfl
theorem spec_RunnersText_no (l : List S35) (hl : l.length ≤ 1000000000) (h : ¬ areRun 1000 l) (k : Nat) (hk : l.length < k) : spec_RunnersText.f k l = some (tx [], false) := by
 unfold spec_RunnersText.f
 rw [spec_trList_eq 1000 l hl k hk, decide_eq_false h]
 rfl
/-- what each piece tells, or nothing as soon as one tells nothing -/
def optL (f : List UInt8 → Option S35) : List (List UInt8) → Option (List S35)
 | [] => some []
 | p :: r => (f p).bind fun x => (optL f r).bind fun xs => some (x :: xs)
def sN (p : List UInt8) : Option S35 := match sp 62 p with
 | [a, b] => some ⟨num a, num b⟩
 | _ => none
def iN (p : List UInt8) : Option S35 := match sp 62 p with
 | [a, b] => if okN a = true ∧ okN b = true then some ⟨valN a, valN b⟩ else none
 | _ => none
theorem sN_two {p a b : List UInt8} (h : sp 62 p = [a, b]) : sN p = some ⟨num a, num b⟩ := by unfold sN; rw [h]
theorem iN_two {p a b : List UInt8} (h : sp 62 p = [a, b]) : iN p = if okN a = true ∧ okN b = true then some ⟨valN a, valN b⟩ else none := by unfold iN; rw [h]
theorem sN_not {p : List UInt8} (h : (sp 62 p).length ≠ 2) : sN p = none := by
 unfold sN
 split
 ·
  rename_i a b e
  rw [e] at h
  exact absurd rfl h
 ·
  rfl
theorem iN_not {p : List UInt8} (h : (sp 62 p).length ≠ 2) : iN p = none := by
 unfold iN
 split
 ·
  rename_i a b e
  rw [e] at h
  exact absurd rfl h
 ·
  rfl
theorem twoOf {α : Type} (l : List α) (h : l.length = 2) : ∃ a b, l = [a, b] := by
 match l, h with
 | [a, b], _ => exact ⟨a, b, rfl⟩
theorem optL_step (f : List UInt8 → Option S35) (p : List UInt8) (r : List (List UInt8)) : optL f (p :: r) = (f p).bind fun x => (optL f r).bind fun xs => some (x :: xs) := rfl
theorem optL_cons {f : List UInt8 → Option S35} {p : List UInt8} {r : List (List UInt8)} {L : List S35} (h : optL f (p :: r) = some L) : ∃ x xs, f p = some x ∧ optL f r = some xs ∧ L = x :: xs := by
 unfold optL at h
 cases hp : f p with
 | none => rw [hp] at h; cases h
 | some x =>
  rw [hp, Option.bind_some] at h
  cases hr : optL f r with
  | none => rw [hr] at h; cases h
  | some xs =>
   rw [hr, Option.bind_some] at h
   exact ⟨x, xs, rfl, rfl, (Option.some.inj h).symm⟩
theorem optL_mk {f : List UInt8 → Option S35} {p : List UInt8} {r : List (List UInt8)} {x : S35} {xs : List S35} (h1 : f p = some x) (h2 : optL f r = some xs) : optL f (p :: r) = some (x :: xs) := by
 unfold optL
 rw [h1, h2]
 rfl
theorem sN_run {p : List UInt8} {x : S35} (h : sN p = some x) (hr : isRun 1000 x.f0 x.f1) : iN p = some x ∧ runTx x = p ∧ p.length ≤ 7 := by
 by_cases h2 : (sp 62 p).length = 2
 ·
  obtain ⟨a, b, hq⟩ := twoOf _ h2
  rw [sN_two hq] at h
  obtain rfl := Option.some.inj h
  unfold isRun at hr
  simp only at hr
  obtain ⟨oa, va⟩ := ok_of_num a (by omega)
  obtain ⟨ob, vb⟩ := ok_of_num b (by omega)
  have ya := num_yes a (by omega)
  have yb := num_yes b (by omega)
  have la := piece_len a 3 (by omega) (by omega)
  have lb := piece_len b 3 (by omega) (by omega)
  have hj := join_sp 62 p
  rw [hq, Go.Lib.join_cons] at hj
  have hj2 : a ++ ([62] ++ b) = p := by
   rw [← hj]
   simp [Go.Lib.joinTail]
  refine ⟨?_, ?_, ?_⟩
  ·
   rw [iN_two hq, if_pos ⟨oa, ob⟩, va, vb]
  ·
   unfold runTx
   rw [ya.1, yb.1, List.append_assoc]
   exact hj2
  ·
   rw [← hj2]
   simp only [List.length_append, List.length_cons, List.length_nil]
   omega
 ·
  rw [sN_not h2] at h
  cases h
theorem iN_run {p : List UInt8} {x : S35} (h : iN p = some x) (hr : isRun 1000 x.f0 x.f1) : sN p = some x := by
 by_cases h2 : (sp 62 p).length = 2
 ·
  obtain ⟨a, b, hq⟩ := twoOf _ h2
  rw [iN_two hq] at h
  by_cases z : okN a = true ∧ okN b = true
  ·
   rw [if_pos z] at h
   obtain rfl := Option.some.inj h
   unfold isRun at hr
   simp only at hr
   rw [sN_two hq, num_of_ok a z.1 (by omega), num_of_ok b z.2 (by omega)]
  ·
   rw [if_neg z] at h
   cases h
 ·
  rw [iN_not h2] at h
  cases h
theorem optL_sN (ps : List (List UInt8)) : ∀ L, optL sN ps = some L → (∀ x ∈ L, isRun 1000 x.f0 x.f1) → optL iN ps = some L ∧ L.map runTx = ps ∧ ∀ p ∈ ps, p.length ≤ 7 := by
 induction ps with
 | nil =>
  intro L h _
  obtain rfl := Option.some.inj h
  exact ⟨rfl, rfl, fun p hp => absurd hp List.not_mem_nil⟩
 | cons p r ih =>
  intro L h hr
  obtain ⟨x, xs, h1, h2, rfl⟩ := optL_cons h
  obtain ⟨a1, a2, a3⟩ := sN_run h1 (hr x List.mem_cons_self)
  obtain ⟨b1, b2, b3⟩ := ih xs h2 fun y hy => hr y (List.mem_cons_of_mem _ hy)
  refine ⟨optL_mk a1 b1, by rw [List.map_cons, a2, b2], fun q hq => ?_⟩
  rcases List.mem_cons.mp hq with rfl | hq
  ·
   exact a3
  ·
   exact b3 q hq
theorem optL_iN (ps : List (List UInt8)) : ∀ L, optL iN ps = some L → (∀ x ∈ L, isRun 1000 x.f0 x.f1) → optL sN ps = some L := by
 induction ps with
 | nil => intro L h _; exact h
 | cons p r ih =>
  intro L h hr
  obtain ⟨x, xs, h1, h2, rfl⟩ := optL_cons h
  exact optL_mk (iN_run h1 (hr x List.mem_cons_self)) (ih xs h2 fun y hy => hr y (List.mem_cons_of_mem _ hy))
def fin1 (o : Option (List S35)) : List S35 × Bool := match o with
 | some L => if areRun 1000 L then (L, true) else ([], false)
 | none => ([], false)
def fin2 (l : List UInt8) (o : Option (List S35)) : List S35 × Bool := match o with
 | some L => if areRun 1000 L ∧ runsTx L = l then (L, true) else ([], false)
 | none => ([], false)
theorem fin_both (l : List UInt8) : fin1 (optL iN (sp 44 l)) = (if l.length > 60 then ([], false) else fin2 l (optL sN (sp 44 l))) := by
 cases hs : optL sN (sp 44 l) with
 | some L =>
  by_cases h : areRun 1000 L
  ·
   obtain ⟨h1, h2, h3⟩ := optL_sN _ L hs h.2.2
   have hj := join_sp 44 l
   have ht : runsTx L = l := by
    unfold runsTx
    rw [h2]
    exact hj
   have hlen := join_len' (sp 44 l) [44] 7 h3
   have hn : (sp 44 l).length = L.length := by rw [← h2, List.length_map]
   rw [hj, hn, List.length_singleton] at hlen
   have := h.2.1
   have hm : L.length * (7 + 1) ≤ 6 * 8 := Nat.mul_le_mul_right _ this.2
   rw [h1, if_neg (by omega)]
   unfold fin1 fin2
   simp only
   rw [if_pos h, if_pos ⟨h, ht⟩]
  ·
   have e : fin2 l (some L) = ([], false) := by
    unfold fin2
    simp only
    rw [if_neg (fun z => h z.1)]
   have e2 : fin1 (optL iN (sp 44 l)) = ([], false) := by
    cases hi : optL iN (sp 44 l) with
    | none => rfl
    | some M =>
     unfold fin1
     simp only
     rw [if_neg]
     intro z
     have := optL_iN _ M hi z.2.2
     rw [hs] at this
     obtain rfl := Option.some.inj this
     exact h z
   rw [e, e2]
   split <;> rfl
 | none =>
  have e2 : fin1 (optL iN (sp 44 l)) = ([], false) := by
   cases hi : optL iN (sp 44 l) with
   | none => rfl
   | some M =>
    unfold fin1
    simp only
    rw [if_neg]
    intro z
    have := optL_iN _ M hi z.2.2
    rw [hs] at this
    cases this
  rw [e2]
  split <;> rfl
theorem fin1_len (o : Option (List S35)) : (fin1 o).1.length ≤ 6 := by
 unfold fin1
 split
 ·
  split
  ·
   rename_i h
   exact h.2.1.2
  ·
   exact Nat.zero_le _
 ·
  exact Nat.zero_le _
theorem spec_ParseRunners_l0 (s : ByteArray) (hs : s.data.toList.length ≤ 60) (ps : List (List UInt8)) (hl : ps.length ≤ 100) (hp : ∀ p ∈ ps, p.length ≤ 60) (q : Nat) : ∀ (k i : Nat) (acc : List S35), i + q = ps.length → acc.length = i → 1048600 + q < k →
  spec_ParseRunners.l0 k s acc (ps.map tx) ((ps.map tx).length : Int) (i : Int) = some (fin2 s.data.toList ((optL sN (ps.drop i)).map fun xs => acc ++ xs)) := by
 induction q with
 | zero =>
  intro k i acc hi ha hk
  obtain ⟨k, rfl⟩ : ∃ m, k = m + 1 := ⟨k - 1, by omega⟩
  simp only [spec_ParseRunners.l0]
  rw [List.length_map, if_neg (by omega), List.drop_of_length_le (by omega), spec_trList_eq 1000 acc (by omega) k (by omega)]
  simp only [Option.bind_some]
  have e : fin2 s.data.toList ((optL sN []).map fun xs => acc ++ xs) = if areRun 1000 acc ∧ runsTx acc = s.data.toList then (acc, true) else ([], false) := by
   show fin2 _ (some (acc ++ [])) = _
   rw [List.append_nil]
   rfl
  rw [e]
  by_cases h : areRun 1000 acc
  ·
   rw [decide_eq_true h, if_pos rfl, spec_trText_eq 1000 acc h k (by omega)]
   simp only [Option.bind_some]
   by_cases z : runsTx acc = s.data.toList
   ·
    have z2 : (tx (runsTx acc)).toList = s.toList := by
     rw [ByteArray.toList_eq, ByteArray.toList_eq, tx_data]
     exact z
    rw [if_pos z2, if_pos ⟨h, z⟩]
   ·
    have z2 : ¬ (tx (runsTx acc)).toList = s.toList := by
     rw [ByteArray.toList_eq, ByteArray.toList_eq, tx_data]
     exact z
    rw [if_neg z2, if_neg (fun y => z y.2)]
  ·
   rw [decide_eq_false h, if_neg Bool.false_ne_true, if_neg (fun y => h y.1)]
 | succ q ih =>
  intro k i acc hi ha hk
  obtain ⟨k, rfl⟩ : ∃ m, k = m + 1 := ⟨k - 1, by omega⟩
  have hlt : i < ps.length := by omega
  have e1 : wrap64 ((i : Int) + 1) = ((i + 1 : Nat) : Int) := by rw [w64 (by omega)]; rfl
  have er : rdOf ByteArray.empty (ps.map tx) (i : Int) = tx ps[i] := by simp [rdOf, hlt]
  have hsz := hp ps[i] (List.getElem_mem hlt)
  have es := spec_l1Split_eq (tx ps[i]) 62 (by rw [tx_data]; omega) k (by rw [tx_data]; omega)
  rw [tx_data] at es
  have e62 : ((62 : UInt8).toNat : Int) = 62 := rfl
  rw [e62] at es
  simp only [spec_ParseRunners.l0]
  rw [List.drop_eq_getElem_cons hlt, List.length_map, if_pos (by omega), if_pos (by omega), if_pos (by omega), er, es]
  simp only [Option.bind_some, List.length_map]
  by_cases h2 : (sp 62 ps[i]).length = 2
  ·
   obtain ⟨a, b, hq⟩ := twoOf _ h2
   rw [hq]
   have r0 : rdOf ByteArray.empty ([a, b].map tx) 0 = tx a := rfl
   have r1 : rdOf ByteArray.empty ([a, b].map tx) 1 = tx b := rfl
   rw [r0, r1, show ((([a, b] : List (List UInt8)).length : Nat) : Int) = 2 from rfl, if_pos rfl, if_pos (by decide), spec_l1Read_eq _ k (by omega), spec_l1Read_eq _ k (by omega), tx_data, tx_data]
   simp only [Option.bind_some]
   rw [if_pos (by decide)]
   have next := ih k (i + 1) (acc ++ [⟨num a, num b⟩]) (by omega) (by rw [List.length_append, List.length_singleton]; omega) (by omega)
   rw [List.length_map] at next
   rw [if_pos (by omega), e1, next]
   rw [optL_step, sN_two hq]
   cases optL sN (ps.drop (i + 1)) with
   | none => rfl
   | some xs => simp
  ·
   rw [if_neg (by omega)]
   rw [optL_step]
   rw [sN_not h2]
   rfl
theorem spec_ParseRunners_eq (s : ByteArray) (hs : s.data.toList.length ≤ 1048576) (k : Nat) (hk : 1049000 < k) : spec_ParseRunners.f k s = some (fin1 (optL iN (sp 44 s.data.toList))) := by
 have hz : s.size = s.data.toList.length := by rw [Array.length_toList]; rfl
 rw [fin_both]
 unfold spec_ParseRunners.f
 rw [hz]
 by_cases h : s.data.toList.length > 60
 ·
  rw [if_pos (by omega), if_pos h]
 ·
  have e1 := spec_l1Split_eq s 44 hs k (by omega)
  have e44 : ((44 : UInt8).toNat : Int) = 44 := rfl
  rw [e44] at e1
  have hn := sp_len 44 s.data.toList
  have := spec_ParseRunners_l0 s (by omega) (sp 44 s.data.toList) (by omega) (fun p hp => by have := sp_small 44 s.data.toList p hp; omega) (sp 44 s.data.toList).length k 0 [] (by omega) rfl (by omega)
  rw [if_neg (by omega), if_neg h, e1]
  simp only [Option.bind_some]
  have e0 : ((0 : Nat) : Int) = 0 := rfl
  rw [e0] at this
  rw [this, List.drop_zero]
  cases optL sN (sp 44 s.data.toList) <;> rfl
theorem impl_ParseRunners_l0 (ps : List (List UInt8)) (hl : ps.length ≤ 1048577) (hp : ∀ p ∈ ps, p.length ≤ 1048576) (q : Nat) : ∀ (k i : Nat) (acc : List S35), i + q = ps.length → acc.length = i → 1048600 + q < k →
  impl_ParseRunners.l0 k acc (ps.map tx) ((ps.map tx).length : Int) (i : Int) = some (fin1 ((optL iN (ps.drop i)).map fun xs => acc ++ xs)) := by
 induction q with
 | zero =>
  intro k i acc hi ha hk
  obtain ⟨k, rfl⟩ : ∃ m, k = m + 1 := ⟨k - 1, by omega⟩
  simp only [impl_ParseRunners.l0]
  rw [List.length_map, if_neg (by omega), List.drop_of_length_le (by omega), impl_AreRunners_eq 1000 acc]
  simp only [Option.bind_some]
  have e : fin1 ((optL iN []).map fun xs => acc ++ xs) = if areRun 1000 acc then (acc, true) else ([], false) := by
   show fin1 (some (acc ++ [])) = _
   rw [List.append_nil]
   rfl
  rw [e]
  by_cases h : areRun 1000 acc
  ·
   rw [decide_eq_true h, if_pos rfl, if_pos h]
  ·
   rw [decide_eq_false h, if_neg Bool.false_ne_true, if_neg h]
 | succ q ih =>
  intro k i acc hi ha hk
  obtain ⟨k, rfl⟩ : ∃ m, k = m + 1 := ⟨k - 1, by omega⟩
  have hlt : i < ps.length := by omega
  have e1 : wrap64 ((i : Int) + 1) = ((i + 1 : Nat) : Int) := by rw [w64 (by omega)]; rfl
  have er : rdOf ByteArray.empty (ps.map tx) (i : Int) = tx ps[i] := by simp [rdOf, hlt]
  have hsz := hp ps[i] (List.getElem_mem hlt)
  have es := impl_readNumbers_eq (tx ps[i]) 62 (by rw [tx_data]; omega) k (by omega)
  rw [tx_data] at es
  simp only [impl_ParseRunners.l0]
  rw [List.drop_eq_getElem_cons hlt, List.length_map, if_pos (by omega), if_pos (by omega), if_pos (by omega), er, es]
  simp only [Option.bind_some]
  by_cases hok : (readNs 62 ps[i]).2 = true
  ·
   obtain ⟨v1, v2⟩ := readNs_len 62 ps[i] hok
   rw [if_pos hok, v1, List.length_map]
   by_cases h2 : (sp 62 ps[i]).length = 2
   ·
    obtain ⟨a, b, hq⟩ := twoOf _ h2
    rw [hq] at v2 ⊢
    simp only [List.all_cons, List.all_nil, Bool.and_true, Bool.and_eq_true] at v2
    have r0 : rd ([a, b].map valN) 0 = valN a := rfl
    have r1 : rd ([a, b].map valN) 1 = valN b := rfl
    have next := ih k (i + 1) (acc ++ [⟨valN a, valN b⟩]) (by omega) (by rw [List.length_append, List.length_singleton]; omega) (by omega)
    rw [List.length_map] at next
    rw [r0, r1, show ((([a, b] : List (List UInt8)).length : Nat) : Int) = 2 from rfl, if_pos rfl, if_pos (by decide), if_pos (by decide), if_pos (by omega), e1, next]
    rw [optL_step]
    rw [iN_two hq, if_pos v2]
    cases optL iN (ps.drop (i + 1)) with
    | none => rfl
    | some xs => simp
   ·
    rw [if_neg (by omega)]
    rw [optL_step]
    rw [iN_not h2]
    rfl
  ·
   rw [if_neg hok]
   have : iN ps[i] = none := by
    by_cases h2 : (sp 62 ps[i]).length = 2
    ·
     obtain ⟨a, b, hq⟩ := twoOf _ h2
     rw [iN_two hq, if_neg]
     intro z
     refine hok ?_
     unfold readNs
     rw [hq, if_pos]
     simp only [List.all_cons, List.all_nil, Bool.and_true, Bool.and_eq_true]
     exact z
    ·
     exact iN_not h2
   rw [optL_step]
   rw [this]
   rfl
theorem impl_ParseRunners_eq (s : ByteArray) (hs : s.data.toList.length ≤ 1048576) (k : Nat) (hk : 2100000 < k) : impl_ParseRunners.f k s = some (fin1 (optL iN (sp 44 s.data.toList))) := by
 have hn := sp_len 44 s.data.toList
 have := impl_ParseRunners_l0 (sp 44 s.data.toList) (by omega) (fun p hp => by have := sp_small 44 s.data.toList p hp; omega) (sp 44 s.data.toList).length k 0 [] (by omega) rfl (by omega)
 unfold impl_ParseRunners.f
 rw [strings_Split_eq s 44 (by omega)]
 simp only [Option.bind_some]
 have e0 : ((0 : Nat) : Int) = 0 := rfl
 rw [e0] at this
 rw [this, List.drop_zero]
 cases optL iN (sp 44 s.data.toList) <;> rfl
/-- a text is cut where the byte stands -/
theorem sp_app (b : UInt8) (q : List UInt8) : ∀ p : List UInt8, (∀ c ∈ p, c ≠ b) → sp b (p ++ b :: q) = p :: sp b q := by
 intro p
 induction p with
 | nil =>
  intro _
  show sp b (b :: q) = _
  simp [sp]
 | cons c p ih =>
  intro h
  have hc : c ≠ b := h c (List.mem_cons_self ..)
  rw [List.cons_append]
  conv => lhs; unfold sp
  rw [if_neg hc, ih (fun x hx => h x (List.mem_cons_of_mem _ hx))]
theorem sp_one (b : UInt8) : ∀ p : List UInt8, (∀ c ∈ p, c ≠ b) → sp b p = [p] := by
 intro p
 induction p with
 | nil =>
  intro _
  rfl
 | cons c p ih =>
  intro h
  have hc : c ≠ b := h c (List.mem_cons_self ..)
  unfold sp
  rw [if_neg hc, ih (fun x hx => h x (List.mem_cons_of_mem _ hx))]
theorem num_itoa (x : Int) (hx : 0 ≤ x ∧ x < 1000000) : num (Go.Lib.itoa x) = x := by
 obtain ⟨n, rfl⟩ := Int.eq_ofNat_of_zero_le hx.1
 rw [itoa_nat]
 exact num_dec n (by omega)
theorem dig_not (l : List UInt8) (h : l.all isDig = true) (b : UInt8) (hb : b.toNat < 48 ∨ 57 < b.toNat) : ∀ c ∈ l, c ≠ b := by
 intro c hc e
 have h1 := List.all_eq_true.mp h c hc
 unfold isDig at h1
 have h2 := of_decide_eq_true h1
 rw [e] at h2
 omega
theorem itoa_not (x : Int) (hx : 0 ≤ x) (b : UInt8) (hb : b.toNat < 48 ∨ 57 < b.toNat) : ∀ c ∈ Go.Lib.itoa x, c ≠ b := by
 obtain ⟨n, rfl⟩ := Int.eq_ofNat_of_zero_le hx
 rw [itoa_nat]
 exact dig_not _ (dec_val n).2 b hb
/-- of two runners the one that is told earlier is farther, or as far and of a lesser index -/
def aft (F : Nat → Int) (a b : Nat) : Prop := F a < F b ∨ (F a = F b ∧ b < a)
theorem ins_mem (lt : Nat → Nat → Bool) (x z : Nat) (p : List Nat) : z ∈ insRev lt x p ↔ z = x ∨ z ∈ p := by
 induction p with
 | nil => simp [insRev]
 | cons y r ih =>
  by_cases c : lt x y = true
  ·
   have e : insRev lt x (y :: r) = y :: insRev lt x r := by show (if lt x y = true then y :: insRev lt x r else x :: y :: r) = _; rw [if_pos c]
   rw [e]
   simp only [List.mem_cons, ih]
   exact or_left_comm
  ·
   have e : insRev lt x (y :: r) = x :: y :: r := by show (if lt x y = true then y :: insRev lt x r else x :: y :: r) = _; rw [if_neg c]
   rw [e]
   simp only [List.mem_cons]
theorem ins_pair (F : Nat → Int) (lt : Nat → Nat → Bool) (hlt : ∀ x y, lt x y = decide (F y < F x)) (x : Nat) (p : List Nat) (hp : p.Pairwise (aft F)) (hx : ∀ y ∈ p, y < x) : (insRev lt x p).Pairwise (aft F) := by
 induction p with
 | nil => exact List.pairwise_singleton _ _
 | cons y r ih =>
  obtain ⟨h1, h2⟩ := List.pairwise_cons.mp hp
  have hy := hx y List.mem_cons_self
  by_cases c : lt x y = true
  ·
   have e : insRev lt x (y :: r) = y :: insRev lt x r := by show (if lt x y = true then y :: insRev lt x r else x :: y :: r) = _; rw [if_pos c]
   rw [e]
   rw [hlt, decide_eq_true_eq] at c
   refine List.pairwise_cons.mpr ⟨fun z hz => ?_, ih h2 fun z hz => hx z (List.mem_cons_of_mem _ hz)⟩
   rcases (ins_mem lt x z r).mp hz with rfl | hz
   ·
    exact .inl c
   ·
    exact h1 z hz
  ·
   have e : insRev lt x (y :: r) = x :: y :: r := by show (if lt x y = true then y :: insRev lt x r else x :: y :: r) = _; rw [if_neg c]
   rw [e]
   rw [hlt, decide_eq_true_eq] at c
   refine List.pairwise_cons.mpr ⟨fun z hz => ?_, hp⟩
   rcases List.mem_cons.mp hz with rfl | hz
   ·
    unfold aft
    omega
   ·
    have h3 := h1 z hz
    have h4 := hx z (List.mem_cons_of_mem _ hz)
    unfold aft at h3 ⊢
    omega
theorem sort_pair (F : Nat → Int) (lt : Nat → Nat → Bool) (hlt : ∀ x y, lt x y = decide (F y < F x)) (n : Nat) : (sortRev lt (List.range n) []).Pairwise (aft F) ∧ ∀ y, y ∈ sortRev lt (List.range n) [] ↔ y < n := by
 induction n with
 | zero => exact ⟨List.Pairwise.nil, fun y => by simp [sortRev]⟩
 | succ n ih =>
  rw [sortRev_range]
  refine ⟨ins_pair F lt hlt n _ ih.1 fun y hy => (ih.2 y).mp hy, fun y => ?_⟩
  rw [ins_mem, ih.2]
  omega
def ordQ (l : List S35) (t : Int) : List Nat := (sortRev (ltN l t) (List.range l.length) []).reverse
theorem ordQ_length (l : List S35) (t : Int) : (ordQ l t).length = l.length := by
 unfold ordQ
 rw [List.length_reverse, sortRev_range_len]
theorem ordQ_lt (l : List S35) (t : Int) (i : Nat) (h : i < (ordQ l t).length) : (ordQ l t)[i] < l.length := by
 have m : (ordQ l t)[i] ∈ sortRev (ltN l t) (List.range l.length) [] := by
  have := List.getElem_mem h
  unfold ordQ at this
  exact List.mem_reverse.mp this
 exact ((sort_pair (farN l t) (ltN l t) (fun _ _ => rfl) l.length).2 _).mp m
theorem ordQ_pair (l : List S35) (t : Int) (i j : Nat) (hi : i < (ordQ l t).length) (hj : j < (ordQ l t).length) (h : i < j) : aft (farN l t) (ordQ l t)[j] (ordQ l t)[i] := by
 have p := (sort_pair (farN l t) (ltN l t) (fun _ _ => rfl) l.length).1
 have q : (ordQ l t).Pairwise (fun a b => aft (farN l t) b a) := by
  unfold ordQ
  exact List.pairwise_reverse.mpr p
 exact (List.pairwise_iff_getElem.mp q) i j hi hj h
theorem orderN_eq (l : List S35) (t : Int) : orderN l t = (ordQ l t).map fun x => ((x % l.length : Nat) : Int) := rfl
theorem order_at (l : List S35) (t : Int) (i : Nat) (h : i < (ordQ l t).length) : rd (orderN l t) (i : Int) = ((ordQ l t)[i] : Int) := by
 have hl := ordQ_lt l t i h
 have h2 : i < (orderN l t).length := by rw [orderN_eq, List.length_map]; exact h
 have e : (orderN l t)[i] = ((ordQ l t)[i] : Int) := by
  simp only [orderN_eq, List.getElem_map]
  rw [Nat.mod_eq_of_lt hl]
 have r : rd (orderN l t) (i : Int) = (orderN l t)[i] := by simp [rd, h2]
 rw [r, e]
theorem order_new (l : List S35) (t : Int) (i : Nat) (h : i < (ordQ l t).length) : ¬ ((ordQ l t)[i] : Int) ∈ (orderN l t).take i := by
 intro hm
 obtain ⟨j, hj, e⟩ := List.mem_take_iff_getElem.mp hm
 have hlen : (orderN l t).length = (ordQ l t).length := by rw [orderN_eq, List.length_map]
 have hj2 : j < (ordQ l t).length := by omega
 have hl := ordQ_lt l t j hj2
 have e2 : (orderN l t)[j]'(by omega) = ((ordQ l t)[j] : Int) := by
  simp only [orderN_eq, List.getElem_map]
  rw [Nat.mod_eq_of_lt hl]
 rw [e2] at e
 have p := ordQ_pair l t j i hj2 h (by omega)
 have e3 : (ordQ l t)[j] = (ordQ l t)[i] := by omega
 unfold aft at p
 rw [e3] at p
 omega
theorem farN_val (a : Int) (l : List S35) (t : Int) (h : areRun a l) (ht : 0 ≤ t ∧ t ≤ 1000000) (m : Nat) (hm : m < l.length) : farN l t m = l[m].f0 + l[m].f1 * t := by
 have hx := h.2.2 l[m] (List.getElem_mem hm)
 have ha := h.1
 unfold isRun at hx
 have p := far_range l[m].f0 l[m].f1 t (by omega) hx.2 ht
 have q := bm (A := 100) (B := 1000000) (a := l[m].f1) (b := t) (by omega) ht
 have er : rd_T35 l (m : Int) = l[m] := by simp [rd_T35, hm]
 unfold farN
 rw [Nat.mod_eq_of_lt hm, er, w64 (x := l[m].f1 * t) (by omega), w64 (by omega)]
/-- the first time at which something is greatest -/
theorem lt_spec (N : Int → Int) (d : Nat) : ∀ best t : Int, best < t → (lt N d best t = best ∨ (t ≤ lt N d best t ∧ lt N d best t < t + d ∧ N best < N (lt N d best t))) ∧ N best ≤ N (lt N d best t) ∧
  (∀ u, t ≤ u → u < t + d → N u ≤ N (lt N d best t)) ∧ ∀ u, t ≤ u → u < lt N d best t → N u < N (lt N d best t) := by
 induction d with
 | zero =>
  intro best t hb
  refine ⟨.inl rfl, Int.le_refl _, fun u h1 h2 => by omega, fun u h1 h2 => ?_⟩
  change u < best at h2
  omega
 | succ d ih =>
  intro best t hb
  by_cases c : N t > N best
  ·
   have e : lt N (d + 1) best t = lt N d t (t + 1) := by
    show lt N d (if N t > N best then t else best) (t + 1) = _
    rw [if_pos c]
   rw [e]
   obtain ⟨h1, h2, h3, h4⟩ := ih t (t + 1) (by omega)
   refine ⟨.inr ?_, by omega, fun u u1 u2 => ?_, fun u u1 u2 => ?_⟩
   ·
    rcases h1 with h1 | h1
    ·
     rw [h1]
     omega
    ·
     omega
   ·
    by_cases z : u = t
    ·
     rw [z]
     exact h2
    ·
     exact h3 u (by omega) (by omega)
   ·
    by_cases z : u = t
    ·
     rw [z]
     rcases h1 with h1 | h1
     ·
      omega
     ·
      exact h1.2.2
    ·
     exact h4 u (by omega) u2
  ·
   have e : lt N (d + 1) best t = lt N d best (t + 1) := by
    show lt N d (if N t > N best then t else best) (t + 1) = _
    rw [if_neg c]
   rw [e]
   obtain ⟨h1, h2, h3, h4⟩ := ih best (t + 1) (by omega)
   refine ⟨?_, h2, fun u u1 u2 => ?_, fun u u1 u2 => ?_⟩
   ·
    rcases h1 with h1 | h1
    ·
     exact .inl h1
    ·
     exact .inr (by omega)
   ·
    by_cases z : u = t
    ·
     rw [z]
     omega
    ·
     exact h3 u (by omega) (by omega)
   ·
    by_cases z : u = t
    ·
     rw [z]
     rcases h1 with h1 | h1
     ·
      omega
     ·
      omega
    ·
     exact h4 u (by omega) u2
theorem nst_le_best (a t : Int) (n : Nat) (y : S35) (l : List S35) : ∀ (best : Int) (i : Nat), nst a t n y best i l ≤ best := by
 induction l with
 | nil => exact fun best _ => Int.le_refl best
 | cons x r ih =>
  intro best i
  have h := ih (if i = n then best else min best (dist a (farX x t) (farX y t))) (i + 1)
  show nst a t n y (if i = n then best else min best (dist a (farX x t) (farX y t))) (i + 1) r ≤ best
  split at h
  ·
   rename_i z
   rw [if_pos z]
   exact h
  ·
   rename_i z
   rw [if_neg z]
   omega
theorem nst_half (a t : Int) (ha : 2 ≤ a) (n : Nat) (y : S35) (l : List S35) : ∀ (best : Int) (i : Nat), (∃ j, j < l.length ∧ i + j ≠ n) → 2 * nst a t n y best i l ≤ a := by
 induction l with
 | nil =>
  rintro best i ⟨j, hj, _⟩
  simp at hj
 | cons x r ih =>
  rintro best i ⟨j, hj, hn⟩
  show 2 * nst a t n y (if i = n then best else min best (dist a (farX x t) (farX y t))) (i + 1) r ≤ a
  by_cases z : i = n
  ·
   rw [if_pos z]
   refine ih best (i + 1) ⟨j - 1, ?_, ?_⟩
   ·
    rw [List.length_cons] at hj
    omega
   ·
    omega
  ·
   rw [if_neg z]
   have h := nst_le_best a t n y r (min best (dist a (farX x t) (farX y t))) (i + 1)
   have d : 2 * dist a (farX x t) (farX y t) ≤ a := by
    unfold dist
    omega
   omega
/-- winners -/
theorem winl_mem (c : Int → Bool) (l : List S35) : ∀ (i : Nat) (x : Int), x ∈ winl c i l ↔ ∃ j, ∃ h : j < l.length, x = ((i + j : Nat) : Int) ∧ c l[j].f1 = true := by
 induction l with
 | nil =>
  intro i x
  simp [winl]
 | cons y r ih =>
  intro i x
  have e : x ∈ winl c i (y :: r) ↔ (x = (i : Int) ∧ c y.f1 = true) ∨ x ∈ winl c (i + 1) r := by
   show x ∈ (if c y.f1 = true then [(i : Int)] else []) ++ winl c (i + 1) r ↔ _
   rw [List.mem_append]
   by_cases z : c y.f1 = true
   ·
    rw [if_pos z]
    simp [z]
   ·
    rw [if_neg z]
    simp [z]
  rw [e, ih]
  constructor
  ·
   rintro (⟨h1, h2⟩ | ⟨j, hj, h1, h2⟩)
   ·
    exact ⟨0, by simp, by simpa using h1, h2⟩
   ·
    exact ⟨j + 1, by rw [List.length_cons]; omega, by rw [h1]; omega, h2⟩
  ·
   rintro ⟨j, hj, h1, h2⟩
   cases j with
   | zero => exact .inl ⟨by simpa using h1, h2⟩
   | succ j => exact .inr ⟨j, by rw [List.length_cons] at hj; omega, by rw [h1]; omega, h2⟩
theorem winl_rises (c : Int → Bool) (l : List S35) : ∀ i : Nat, (winl c i l).Pairwise (· < ·) := by
 induction l with
 | nil => exact fun _ => List.Pairwise.nil
 | cons y r ih =>
  intro i
  unfold winl
  by_cases z : c y.f1 = true
  ·
   rw [if_pos z, List.singleton_append]
   refine List.pairwise_cons.mpr ⟨fun x hx => ?_, ih (i + 1)⟩
   obtain ⟨j, _, h1, _⟩ := (winl_mem c r (i + 1) x).mp hx
   omega
  ·
   rw [if_neg z, List.nil_append]
   exact ih (i + 1)
theorem most_ge (l : List S35) : ∀ b : Int, b ≤ most b l ∧ ∀ x ∈ l, x.f1 ≤ most b l := by
 induction l with
 | nil => exact fun b => ⟨Int.le_refl b, fun x hx => absurd hx List.not_mem_nil⟩
 | cons y r ih =>
  intro b
  obtain ⟨h1, h2⟩ := ih (mx b y.f1)
  have m : b ≤ mx b y.f1 ∧ y.f1 ≤ mx b y.f1 := by
   unfold mx
   split <;> omega
  show b ≤ most (mx b y.f1) r ∧ ∀ x ∈ y :: r, x.f1 ≤ most (mx b y.f1) r
  refine ⟨by omega, fun x hx => ?_⟩
  rcases List.mem_cons.mp hx with rfl | hx
  ·
   omega
  ·
   exact h2 x hx
theorem most_is (l : List S35) : ∀ b : Int, most b l = b ∨ ∃ j, ∃ h : j < l.length, l[j].f1 = most b l := by
 induction l with
 | nil => exact fun b => .inl rfl
 | cons y r ih =>
  intro b
  show most (mx b y.f1) r = b ∨ ∃ j, ∃ h : j < (y :: r).length, (y :: r)[j].f1 = most (mx b y.f1) r
  rcases ih (mx b y.f1) with h | ⟨j, hj, h⟩
  ·
   by_cases z : b < y.f1
   ·
    refine .inr ⟨0, by simp, ?_⟩
    rw [h]
    unfold mx
    rw [if_pos z]
    rfl
   ·
    refine .inl ?_
    rw [h]
    unfold mx
    rw [if_neg z]
  ·
   exact .inr ⟨j + 1, by rw [List.length_cons]; omega, h⟩
theorem ceil_low (L v : Int) (hv : 1 ≤ v) (hL : 0 ≤ L) : (lowN L v + lowD L v - 1).tdiv (lowD L v) = ceil L v := by
 have r := lowD_range (a := L) (b := v) (by omega)
 have n := low_nonneg (a := L) (b := v) hL (by omega)
 have cc := low_cross L v
 rw [Int.tdiv_eq_ediv_of_nonneg (by omega)]
 show ceil (lowN L v) (lowD L v) = ceil L v
 generalize lowN L v = x at *
 generalize lowD L v = y at *
 have step : ∀ m : Int, x ≤ y * m ↔ L ≤ v * m := by
  intro m
  have e1 : y * m * v = v * m * y := by grind
  constructor
  ·
   intro h
   have := Int.mul_le_mul_of_nonneg_right h (show 0 ≤ v by omega)
   rw [cc, e1] at this
   exact Int.le_of_mul_le_mul_right this (by omega)
  ·
   intro h
   have := Int.mul_le_mul_of_nonneg_right h (show 0 ≤ y by omega)
   rw [← cc, ← e1] at this
   exact Int.le_of_mul_le_mul_right this (by omega)
 have a1 := (ceil_le x y (ceil L v) r.1).mpr ((step _).mpr ((ceil_le L v _ hv).mp (Int.le_refl _)))
 have a2 := (ceil_le L v (ceil x y) hv).mpr ((step _).mp ((ceil_le x y _ r.1).mp (Int.le_refl _)))
 omega
/-- texts -/
theorem sN_tx (x : S35) (h : isRun 1000 x.f0 x.f1) : sN (runTx x) = some x := by
 unfold isRun at h
 have n1 : ∀ c ∈ Go.Lib.itoa x.f0, c ≠ 62 := itoa_not x.f0 (by omega) 62 (by decide)
 have n2 : ∀ c ∈ Go.Lib.itoa x.f1, c ≠ 62 := itoa_not x.f1 (by omega) 62 (by decide)
 have e : sp 62 (runTx x) = [Go.Lib.itoa x.f0, Go.Lib.itoa x.f1] := by
  unfold runTx
  rw [List.append_assoc, List.singleton_append, sp_app 62 _ _ n1, sp_one 62 _ n2]
 rw [sN_two e, num_itoa x.f0 (by omega), num_itoa x.f1 (by omega)]
theorem runTx_not (x : S35) (h : isRun 1000 x.f0 x.f1) : ∀ c ∈ runTx x, c ≠ 44 := by
 unfold isRun at h
 intro c hc
 unfold runTx at hc
 rcases List.mem_append.mp hc with hc | hc
 ·
  rcases List.mem_append.mp hc with hc | hc
  ·
   exact itoa_not x.f0 (by omega) 44 (by decide) c hc
  ·
   rw [List.mem_singleton.mp hc]
   decide
 ·
  exact itoa_not x.f1 (by omega) 44 (by decide) c hc
theorem sp_runs (l : List S35) (hv : ∀ x ∈ l, isRun 1000 x.f0 x.f1) (x : S35) (hx : isRun 1000 x.f0 x.f1) : sp 44 (runsTx (x :: l)) = (x :: l).map runTx := by
 induction l generalizing x with
 | nil =>
  unfold runsTx
  rw [List.map_cons, List.map_nil, Go.Lib.join_one]
  exact sp_one 44 _ (runTx_not x hx)
 | cons y r ih =>
  have e : runsTx (x :: y :: r) = runTx x ++ 44 :: runsTx (y :: r) := by
   unfold runsTx
   rw [List.map_cons, Go.Lib.join_cons, List.map_cons, Go.Lib.join_cons]
   simp [Go.Lib.joinTail]
  rw [e, sp_app 44 _ _ (runTx_not x hx), ih (fun z hz => hv z (List.mem_cons_of_mem _ hz)) y (hv y List.mem_cons_self)]
  rfl
theorem optL_runs (l : List S35) (hv : ∀ x ∈ l, isRun 1000 x.f0 x.f1) : optL sN (l.map runTx) = some l := by
 induction l with
 | nil => rfl
 | cons x r ih => exact optL_mk (sN_tx x (hv x List.mem_cons_self)) (ih fun z hz => hv z (List.mem_cons_of_mem _ hz))
theorem runs_round (l : List S35) (h : areRun 1000 l) : fin1 (optL iN (sp 44 (runsTx l))) = (l, true) := by
 obtain ⟨x, r, rfl⟩ : ∃ x r, l = x :: r := by
  cases l with
  | nil => exact absurd h.2.1.1 (by simp)
  | cons x r => exact ⟨x, r, rfl⟩
 have hs := sp_runs r (fun z hz => h.2.2 z (List.mem_cons_of_mem _ hz)) x (h.2.2 x List.mem_cons_self)
 have ho := optL_runs (x :: r) h.2.2
 rw [hs, (optL_sN _ _ ho h.2.2).1]
 unfold fin1
 simp only
 rw [if_pos h]
theorem runs_back (s : List UInt8) (l : List S35) (h : fin1 (optL iN (sp 44 s)) = (l, true)) : areRun 1000 l ∧ runsTx l = s := by
 rw [fin_both] at h
 by_cases z : s.length > 60
 ·
  rw [if_pos z] at h
  injection h with _ h
  cases h
 ·
  rw [if_neg z] at h
  cases ho : optL sN (sp 44 s) with
  | none =>
   rw [ho] at h
   unfold fin2 at h
   injection h with _ h
   cases h
  | some L =>
   rw [ho] at h
   unfold fin2 at h
   simp only at h
   by_cases y : areRun 1000 L ∧ runsTx L = s
   ·
    rw [if_pos y] at h
    injection h with h _
    rw [← h]
    exact y
   ·
    rw [if_neg y] at h
    injection h with _ h
    cases h
def bytes (c : List Int) : Prop := ∀ x ∈ c, (Lit.int .u8 x).wf = true
theorem byte_range {x : Int} (h : (Lit.int .u8 x).wf = true) : 0 ≤ x ∧ x ≤ 255 := by
 simp [Lit.wf, IntKind.min, IntKind.max, IntKind.bits, IntKind.signed] at h
 omega
theorem rd_byte (c : List Int) (hc : bytes c) (i : Int) (h0 : 0 ≤ i) (h1 : i < (c.length : Int)) : 0 ≤ rd c i ∧ rd c i ≤ 255 := by
 have hlt : i.toNat < c.length := by omega
 have e : rd c i = c[i.toNat] := by simp [rd, hlt]
 rw [e]
 exact byte_range (hc _ (List.getElem_mem hlt))
theorem bits_255 (x : Int) : 0 ≤ Go.bits .and .u64 x 255 ∧ Go.bits .and .u64 x 255 ≤ 255 := by
 have h : (BitVec.ofInt 64 x &&& 255#64).toNat ≤ 255 := by
  rw [BitVec.toNat_and]
  exact Nat.and_le_right
 have e : Go.bits .and .u64 x 255 = IntKind.u64.wrap ((BitVec.ofInt 64 x &&& 255#64).toNat : Int) := rfl
 rw [e]
 generalize (BitVec.ofInt 64 x &&& 255#64).toNat = n at *
 have e2 : IntKind.u64.wrap (n : Int) = (n : Int) := by
  simp [IntKind.wrap, IntKind.bits, IntKind.signed]
  omega
 rw [e2]
 omega
theorem next_ok (c : List Int) (hc : bytes c) (a s : Int) (ha : 0 ≤ a ∧ a ≤ 4000000000000000000) : ∃ r s', spec_l1Cur_next.f c a s = some (r, a + 1, s') ∧ 0 ≤ r ∧ r ≤ 255 := by
 have ew : wrap64 (a + 1) = a + 1 := w64 (by omega)
 unfold spec_l1Cur_next.f
 rw [ew]
 by_cases h : a < (c.length : Int)
 ·
  have rb := rd_byte c hc a ha.1 h
  have er : wrap64 (rd c a) = rd c a := w64 (by omega)
  rw [if_pos h, if_pos ha.1, if_pos (by omega), er]
  exact ⟨_, _, rfl, rb.1, rb.2⟩
 ·
  rw [if_neg h, if_neg (by omega)]
  have b := bits_255 ((IntKind.u64.wrap ((IntKind.u64.wrap ((IntKind.u64.wrap (s * 6364136223846793005)) + 0)) + 1442695040888963407)) / 1099511627776)
  refine ⟨_, _, rfl, ?_⟩
  rw [w64 (by omega)]
  exact b
theorem pick_ok (c : List Int) (hc : bytes c) (a s n : Int) (ha : 0 ≤ a ∧ a ≤ 4000000000000000000 - 2) : ∃ r a' s', spec_l1Cur_pick.f c a s n = some (r, a', s') ∧ 0 ≤ r ∧ (1 ≤ n → r < n) ∧ r ≤ 65535 ∧ a ≤ a' ∧ a' ≤ a + 2 := by
 unfold spec_l1Cur_pick.f
 by_cases h : n ≤ 1
 ·
  rw [if_pos h]
  exact ⟨_, _, _, rfl, by omega, by omega, by omega, by omega, by omega⟩
 ·
  rw [if_neg h]
  obtain ⟨r, s', e, r0, r1⟩ := next_ok c hc a s (by omega)
  rw [e]
  simp only [Option.bind_some]
  by_cases h2 : n > 200
  ·
   rw [if_pos h2]
   obtain ⟨q, s2, e2, q0, q1⟩ := next_ok c hc (a + 1) s' (by omega)
   rw [e2]
   simp only [Option.bind_some]
   rw [if_neg (by omega), w64 (x := r * 256) (by omega), w64 (x := r * 256 + q) (by omega), Int.tmod_eq_emod_of_nonneg (by omega)]
   have := Int.emod_nonneg (r * 256 + q) (show n ≠ 0 by omega)
   have := Int.emod_lt_of_pos (r * 256 + q) (show 0 < n by omega)
   have e3 := Int.emod_def (r * 256 + q) n
   have e4 := Int.mul_nonneg (show 0 ≤ n by omega) (Int.ediv_nonneg (show 0 ≤ r * 256 + q by omega) (show 0 ≤ n by omega))
   exact ⟨_, _, _, rfl, by omega, by omega, by omega, by omega, by omega⟩
  ·
   rw [if_neg h2, if_neg (by omega), Int.tmod_eq_emod_of_nonneg (by omega)]
   have := Int.emod_nonneg r (show n ≠ 0 by omega)
   have := Int.emod_lt_of_pos r (show 0 < n by omega)
   exact ⟨_, _, _, rfl, by omega, by omega, by omega, by omega, by omega⟩
theorem among_ok (c : List Int) (hc : bytes c) (a s : Int) (l : List Int) (hl : 1 ≤ l.length ∧ l.length ≤ 1000000) (ha : 0 ≤ a ∧ a ≤ 4000000000000000000 - 2) : ∃ r a' s', spec_l1Cur_among.f c a s l = some (r, a', s') ∧ r ∈ l ∧ a ≤ a' ∧ a' ≤ a + 2 := by
 obtain ⟨r, a', s', e, r0, r1, _, h⟩ := pick_ok c hc a s (l.length : Int) ha
 have r2 := r1 (by omega)
 have hlt : r.toNat < l.length := by omega
 have er : rd l r = l[r.toNat] := by simp [rd, hlt]
 unfold spec_l1Cur_among.f
 rw [e]
 simp only [Option.bind_some]
 rw [if_pos r0, if_pos r2, er]
 exact ⟨_, _, _, rfl, List.getElem_mem hlt, h⟩
theorem one_ok (c : List Int) (hc : bytes c) (a s n : Int) (ha : 0 ≤ a ∧ a ≤ 4000000000000000000 - 2) : ∃ r a' s', spec_l1Cur_one.f c a s n = some (r, a', s') ∧ a ≤ a' ∧ a' ≤ a + 2 := by
 obtain ⟨r, a', s', e, _, _, _, h⟩ := pick_ok c hc a s n ha
 unfold spec_l1Cur_one.f
 rw [e]
 exact ⟨_, _, _, rfl, h⟩
theorem lap_ok (c : List Int) (hc : bytes c) (a s : Int) (ha : 0 ≤ a ∧ a ≤ 4000000000000000000 - 4) : ∃ r a' s', spec_l1Cur_lap.f c a s = some (r, a', s') ∧ a ≤ a' ∧ a' ≤ a + 4 := by
 obtain ⟨r, a1, s1, e1, h1⟩ := one_ok c hc a s 10 (by omega)
 unfold spec_l1Cur_lap.f
 rw [e1]
 simp only [Option.bind_some]
 split
 ·
  obtain ⟨q, a2, s2, e2, _, h2⟩ := among_ok c hc a1 s1 [(-1), 0, 1, 2, 1000, 1001, 4611686018427387904] (by decide) (by omega)
  rw [e2]
  simp only [Option.bind_some]
  exact ⟨_, _, _, rfl, by omega, by omega⟩
 ·
  obtain ⟨q, a2, s2, e2, q0, q1, q2, h2⟩ := pick_ok c hc a1 s1 30 (by omega)
  rw [e2]
  simp only [Option.bind_some]
  exact ⟨_, _, _, rfl, by omega, by omega⟩
theorem runner_ok (c : List Int) (hc : bytes c) (a s n : Int) (ha : 0 ≤ a ∧ a ≤ 4000000000000000000 - 6) : ∃ r q a' s', spec_l1Cur_runner.f c a s n = some (r, q, a', s') ∧ a ≤ a' ∧ a' ≤ a + 6 := by
 obtain ⟨r, a1, s1, e1, h1⟩ := one_ok c hc a s 16 (by omega)
 unfold spec_l1Cur_runner.f
 rw [e1]
 simp only [Option.bind_some]
 split
 ·
  obtain ⟨q, a2, s2, e2, _, h2⟩ := among_ok c hc a1 s1 [(-1), 0, 1, 999, 1000, 4611686018427387904] (by decide) (by omega)
  rw [e2]
  simp only [Option.bind_some]
  obtain ⟨q3, a3, s3, e3, _, h3⟩ := among_ok c hc a2 s2 [(-1), 0, 1, 100, 101, 4611686018427387904] (by decide) (by omega)
  rw [e3]
  simp only [Option.bind_some]
  exact ⟨_, _, _, _, rfl, by omega, by omega⟩
 ·
  rw [spec_l1Most_eq]
  simp only [Option.bind_some]
  rw [spec_l1Least_eq]
  simp only [Option.bind_some]
  obtain ⟨q, a2, s2, e2, _, _, _, h2⟩ := pick_ok c hc a1 s1 (if 1000 < (if 1 > n then 1 else n) then 1000 else (if 1 > n then 1 else n)) (by omega)
  rw [e2]
  simp only [Option.bind_some]
  obtain ⟨q3, a3, s3, e3, _, _, _, h3⟩ := pick_ok c hc a2 s2 9 (by omega)
  rw [e3]
  simp only [Option.bind_some]
  exact ⟨_, _, _, _, rfl, by omega, by omega⟩
theorem twoRunners_ok (c : List Int) (hc : bytes c) (a s : Int) (ha : 0 ≤ a ∧ a ≤ 4000000000000000000 - 16) : ∃ r1 r2 r3 r4 r5 a' s', spec_l1Cur_twoRunners.f c a s = some (r1, r2, r3, r4, r5, a', s') ∧ a ≤ a' ∧ a' ≤ a + 16 := by
 obtain ⟨r, a1, s1, e1, h1⟩ := lap_ok c hc a s (by omega)
 obtain ⟨x2, y2, a2, s2, e2, h2⟩ := runner_ok c hc a1 s1 r (by omega)
 obtain ⟨x3, y3, a3, s3, e3, h3⟩ := runner_ok c hc a2 s2 r (by omega)
 unfold spec_l1Cur_twoRunners.f
 rw [e1]
 simp only [Option.bind_some]
 rw [e2]
 simp only [Option.bind_some]
 rw [e3]
 simp only [Option.bind_some]
 exact ⟨_, _, _, _, _, _, _, rfl, by omega, by omega⟩
theorem moment_ok (c : List Int) (hc : bytes c) (a s : Int) (ha : 0 ≤ a ∧ a ≤ 4000000000000000000 - 4) : ∃ r a' s', spec_l1Cur_moment.f c a s = some (r, a', s') ∧ a ≤ a' ∧ a' ≤ a + 4 := by
 obtain ⟨r, a1, s1, e1, h1⟩ := one_ok c hc a s 8 (by omega)
 unfold spec_l1Cur_moment.f
 rw [e1]
 simp only [Option.bind_some]
 split
 ·
  obtain ⟨q, a2, s2, e2, _, h2⟩ := among_ok c hc a1 s1 [(-1), 0, 1, 10000, 10001, 1000000, 1000001, 4611686018427387904] (by decide) (by omega)
  rw [e2]
  simp only [Option.bind_some]
  exact ⟨_, _, _, rfl, by omega, by omega⟩
 ·
  obtain ⟨q, a2, s2, e2, q0, q1, q2, h2⟩ := pick_ok c hc a1 s1 60 (by omega)
  rw [e2]
  simp only [Option.bind_some]
  exact ⟨_, _, _, rfl, by omega, by omega⟩
theorem runners_l1 (c : List Int) (hc : bytes c) (lap : Int) (d : Nat) : ∀ (k : Nat) (l : List S35) (a s : Int), 7 ≤ l.length + d → d < k → l.length ≤ 100 → 0 ≤ a → a + 2 * d ≤ 1000 → ∃ l' a' s', spec_l1Cur_runners.l1 k lap l c a s = some (lap, l', a', s') ∧ l'.length ≤ 107 ∧ a ≤ a' ∧ a' ≤ a + 2 * d + 2 := by
 induction d with
 | zero =>
  intro k l a s h7 hk hl h0 h1
  obtain ⟨k, rfl⟩ : ∃ m, k = m + 1 := ⟨k - 1, by omega⟩
  obtain ⟨q, a2, s2, e2, q0, q1, q2, h2⟩ := pick_ok c hc a s 2 (by omega)
  have q3 := q1 (by omega)
  simp only [spec_l1Cur_runners.l1]
  rw [e2]
  simp only [Option.bind_some]
  rw [w64 (x := 6 + q) (by omega), if_neg (by omega)]
  exact ⟨_, _, _, rfl, by omega, by omega, by omega⟩
 | succ d ih =>
  intro k l a s h7 hk hl h0 h1
  obtain ⟨k, rfl⟩ : ∃ m, k = m + 1 := ⟨k - 1, by omega⟩
  obtain ⟨q, a2, s2, e2, q0, q1, q2, h2⟩ := pick_ok c hc a s 2 (by omega)
  have q3 := q1 (by omega)
  simp only [spec_l1Cur_runners.l1]
  rw [e2]
  simp only [Option.bind_some]
  rw [w64 (x := 6 + q) (by omega)]
  by_cases z : (l.length : Int) < 6 + q
  ·
   rw [if_pos z, if_pos (by omega)]
   obtain ⟨l', a', s', e', g1, g2, g3⟩ := ih k (l ++ [⟨0, 2⟩]) a2 s2 (by rw [List.length_append, List.length_singleton]; omega) (by omega) (by rw [List.length_append, List.length_singleton]; omega) (by omega) (by omega)
   exact ⟨l', a', s', e', g1, by omega, by omega⟩
  ·
   rw [if_neg z]
   exact ⟨_, _, _, rfl, by omega, by omega, by omega⟩
theorem runners_l0 (c : List Int) (hc : bytes c) (lap : Int) (d : Nat) : ∀ (k : Nat) (l : List S35) (n a s : Int), n = d → d + 10 < k → l.length + d ≤ 50 → 0 ≤ a → a + 6 * d ≤ 900 → ∃ l' a' s', spec_l1Cur_runners.l0 k lap l n c a s = some (lap, l', a', s') ∧ l'.length ≤ 107 ∧ a ≤ a' ∧ a' ≤ a + 6 * d + 20 := by
 induction d with
 | zero =>
  intro k l n a s hn hk hl h0 h1
  obtain ⟨k, rfl⟩ : ∃ m, k = m + 1 := ⟨k - 1, by omega⟩
  obtain ⟨q, a2, s2, e2, q0, q1, q2, h2⟩ := pick_ok c hc a s 18 (by omega)
  simp only [spec_l1Cur_runners.l0]
  rw [if_neg (by omega), e2]
  simp only [Option.bind_some]
  split
  ·
   exact ⟨_, _, _, rfl, by simp, by omega, by omega⟩
  ·
   split
   ·
    obtain ⟨l', a', s', e', g1, g2, g3⟩ := runners_l1 c hc lap 7 k l a2 s2 (by omega) (by omega) (by omega) (by omega) (by omega)
    exact ⟨l', a', s', e', g1, by omega, by omega⟩
   ·
    exact ⟨_, _, _, rfl, by omega, by omega, by omega⟩
 | succ d ih =>
  intro k l n a s hn hk hl h0 h1
  obtain ⟨k, rfl⟩ : ∃ m, k = m + 1 := ⟨k - 1, by omega⟩
  obtain ⟨x2, y2, a2, s2, e2, h2⟩ := runner_ok c hc a s lap (by omega)
  simp only [spec_l1Cur_runners.l0]
  rw [if_pos (by omega), e2]
  simp only [Option.bind_some]
  rw [if_pos (by omega), w64 (x := n - 1) (by omega)]
  obtain ⟨l', a', s', e', g1, g2, g3⟩ := ih k (l ++ [⟨x2, y2⟩]) (n - 1) a2 s2 (by omega) (by omega) (by rw [List.length_append, List.length_singleton]; omega) (by omega) (by omega)
  exact ⟨l', a', s', e', g1, by omega, by omega⟩
theorem runners_ok (c : List Int) (hc : bytes c) (k : Nat) (hk : 100 < k) : ∃ lap l a' s', spec_l1Cur_runners.f k c 0 0 = some (lap, l, a', s') ∧ l.length ≤ 107 ∧ 0 ≤ a' ∧ a' ≤ 1000 := by
 obtain ⟨lap, a1, s1, e1, h1⟩ := lap_ok c hc 0 0 (by omega)
 obtain ⟨q, a2, s2, e2, q0, q1, q2, h2⟩ := pick_ok c hc a1 s1 4 (by omega)
 have q3 := q1 (by omega)
 unfold spec_l1Cur_runners.f
 rw [e1]
 simp only [Option.bind_some]
 rw [e2]
 simp only [Option.bind_some]
 rw [w64 (x := 1 + q) (by omega)]
 obtain ⟨l', a', s', e', g1, g2, g3⟩ := runners_l0 c hc lap (1 + q).toNat k [] (1 + q) a2 s2 (by omega) (by omega) (by simp; omega) (by omega) (by omega)
 exact ⟨lap, l', a', s', e', g1, by omega, by omega⟩
theorem ext_size (x : ByteArray) (i j : Nat) : (x.extract i j).size ≤ j - i ∧ (x.extract i j).size ≤ x.size - i := by
 rw [ByteArray.size_extract]
 omega
theorem spoilt_l0 (c : List Int) (hc : bytes c) (x2 : ByteArray) (hx2 : 1 ≤ x2.size ∧ x2.size ≤ 200) (n : Nat) : ∀ (k : Nat) (x1 : ByteArray) (a s : Int), n ≤ 5 → x1.size + n ≤ 1000000 → 0 ≤ a → a + 10 * n ≤ 4000000000000000000 - 20 → 2 * n + 2 ≤ k →
  ∃ y a' s', spec_l1Cur_spoilt.l0 k x1 x2 (n : Int) c a s = some (y, a', s') ∧ y.size ≤ x1.size + n := by
 induction n with
 | zero =>
  intro k x1 a s _ hx h0 h1 hk
  obtain ⟨k, rfl⟩ : ∃ m, k = m + 1 + 1 := ⟨k - 2, by omega⟩
  simp only [spec_l1Cur_spoilt.l0, spec_l1Cur_spoilt.j1]
  rw [if_neg (by omega), if_neg (by decide)]
  exact ⟨_, _, _, rfl, by omega⟩
 | succ n ih =>
  intro k x1 a s hn hx h0 h1 hk
  obtain ⟨k, rfl⟩ : ∃ m, k = m + 1 + 1 := ⟨k - 2, by omega⟩
  have ew : wrap64 (((n + 1 : Nat) : Int) - 1) = (n : Int) := by rw [w64 (by omega)]; omega
  simp only [spec_l1Cur_spoilt.l0, spec_l1Cur_spoilt.j1]
  rw [if_pos (by omega)]
  by_cases hz : (x1.size : Int) > 0
  ·
   rw [decide_eq_true hz, if_pos rfl]
   obtain ⟨i, a1, s1, e1, l1, u1, _, g1⟩ := pick_ok c hc a s (x1.size : Int) (by omega)
   obtain ⟨j, a2, s2, e2, l2, u2, _, g2⟩ := pick_ok c hc a1 s1 (x2.size : Int) (by omega)
   obtain ⟨m, a3, s3, e3, l3, u3, _, g3⟩ := pick_ok c hc a2 s2 3 (by omega)
   have v1 := u1 (by omega)
   have v2 := u2 (by omega)
   have w1 : wrap64 (i + 1) = i + 1 := w64 (by omega)
   have q1 := ext_size x1 0 i.toNat
   have q2 := ext_size x1 i.toNat x1.size
   have q3 := ext_size x1 (i + 1).toNat x1.size
   rw [e1]
   simp only [Option.bind_some]
   rw [e2]
   simp only [Option.bind_some]
   rw [if_pos l2, if_pos v2]
   rw [e3]
   simp only [Option.bind_some]
   have q4 : (strOfNums [bt x2 j]).size = 1 := by simp [strOfNums, ByteArray.size]
   rw [w1, ew]
   have l2' : i ≤ (x1.size : Int) := by omega
   split
   ·
    rw [if_pos (by omega), if_pos (by rw [ByteArray.size_append]; omega)]
    obtain ⟨y, a', s', ey, hy⟩ := ih k ((x1.extract 0 i.toNat ++ strOfNums [bt x2 j]) ++ x1.extract i.toNat x1.size) a3 s3 (by omega) (by rw [ByteArray.size_append, ByteArray.size_append]; omega) (by omega) (by omega) (by omega)
    rw [ey]
    refine ⟨_, _, _, rfl, ?_⟩
    rw [ByteArray.size_append, ByteArray.size_append] at hy
    omega
   ·
    split
    ·
     rw [if_pos (by omega), if_pos (by omega), if_pos (by omega), if_pos (by rw [ByteArray.size_append]; omega)]
     obtain ⟨y, a', s', ey, hy⟩ := ih k ((x1.extract 0 i.toNat ++ strOfNums [bt x2 j]) ++ x1.extract (i + 1).toNat x1.size) a3 s3 (by omega) (by rw [ByteArray.size_append, ByteArray.size_append]; omega) (by omega) (by omega) (by omega)
     rw [ey]
     refine ⟨_, _, _, rfl, ?_⟩
     rw [ByteArray.size_append, ByteArray.size_append] at hy
     omega
    ·
     rw [if_pos (by omega), if_pos (by omega), if_pos (by omega)]
     obtain ⟨y, a', s', ey, hy⟩ := ih k (x1.extract 0 i.toNat ++ x1.extract (i + 1).toNat x1.size) a3 s3 (by omega) (by rw [ByteArray.size_append]; omega) (by omega) (by omega) (by omega)
     rw [ey]
     refine ⟨_, _, _, rfl, ?_⟩
     rw [ByteArray.size_append] at hy
     omega
  ·
   rw [decide_eq_false hz, if_neg (by decide)]
   exact ⟨_, _, _, rfl, by omega⟩
theorem spoilt_ok (c : List Int) (hc : bytes c) (x1 x2 : ByteArray) (hx2 : 1 ≤ x2.size ∧ x2.size ≤ 200) (hx1 : x1.size ≤ 100000) (a s : Int) (ha : 0 ≤ a ∧ a ≤ 4000000000000000000 - 200) (k : Nat) (hk : 20 ≤ k) :
  ∃ y a' s', spec_l1Cur_spoilt.f k c a s x1 x2 = some (y, a', s') ∧ y.size ≤ x1.size + 5 := by
 obtain ⟨r, a1, s1, e1, l1, u1, _, g1⟩ := pick_ok c hc a s 2 (by omega)
 have v1 := u1 (by omega)
 unfold spec_l1Cur_spoilt.f
 rw [e1]
 simp only [Option.bind_some]
 obtain ⟨n, rfl⟩ := Int.eq_ofNat_of_zero_le l1
 have ew : wrap64 (1 + (n : Int)) = ((n + 1 : Nat) : Int) := by rw [w64 (by omega)]; omega
 rw [ew]
 obtain ⟨y, a', s', ey, hy⟩ := spoilt_l0 c hc x2 hx2 (n + 1) k x1 a1 s1 (by omega) (by omega) (by omega) (by omega) (by omega)
 exact ⟨y, a', s', ey, by omega⟩
theorem pick_q (c : List Int) (hc : bytes c) (a s n : Int) (ha : 0 ≤ a ∧ a ≤ 4000000000000000000 - 2) : ∃ q : Int × Int × Int, spec_l1Cur_pick.f c a s n = some q ∧ a ≤ q.2.1 ∧ q.2.1 ≤ a + 2 := by
 obtain ⟨x, a2, s2, e2, _, _, _, g2⟩ := pick_ok c hc a s n ha
 exact ⟨(x, a2, s2), e2, g2⟩
theorem runners_q (c : List Int) (hc : bytes c) (k : Nat) (hk : 100 < k) : ∃ q : Int × List S35 × Int × Int, spec_l1Cur_runners.f k c 0 0 = some q ∧ q.2.1.length ≤ 107 ∧ 0 ≤ q.2.2.1 ∧ q.2.2.1 ≤ 100000 := by
 obtain ⟨lap, l, a1, s1, e1, h1, g1⟩ := runners_ok c hc k hk
 exact ⟨(lap, l, a1, s1), e1, h1, by show 0 ≤ a1 ∧ a1 ≤ 100000; omega⟩
theorem moment_q (c : List Int) (hc : bytes c) (a s : Int) (ha : 0 ≤ a ∧ a ≤ 4000000000000000000 - 4) : ∃ q : Int × Int × Int, spec_l1Cur_moment.f c a s = some q := by
 obtain ⟨t, a2, s2, e2, _⟩ := moment_ok c hc a s ha
 exact ⟨_, e2⟩
theorem dOrder_ok (c : List Int) (hc : bytes c) (k : Nat) (hk : 100 < k) : ∃ a l t, spec_DrawOrderOnTrack.f k c = some (a, l, t) ∧ l.length ≤ 107 := by
 obtain ⟨lap, l, a1, s1, e1, h1, g1⟩ := runners_ok c hc k hk
 obtain ⟨t, a2, s2, e2, g2⟩ := moment_ok c hc a1 s1 (by omega)
 unfold spec_DrawOrderOnTrack.f
 rw [e1]
 simp only [Option.bind_some]
 rw [e2]
 exact ⟨_, _, _, rfl, h1⟩
theorem dLaps_ok (c : List Int) (hc : bytes c) : ∃ a s v t, spec_DrawLapsAt.f c = some (a, s, v, t) := by
 obtain ⟨lap, a1, s1, e1, g1⟩ := lap_ok c hc 0 0 (by omega)
 obtain ⟨x, y, a2, s2, e2, g2⟩ := runner_ok c hc a1 s1 lap (by omega)
 obtain ⟨t, a3, s3, e3, g3⟩ := moment_ok c hc a2 s2 (by omega)
 unfold spec_DrawLapsAt.f spec_DrawPlaceOnTrack.f
 rw [e1]
 simp only [Option.bind_some]
 rw [e2]
 simp only [Option.bind_some]
 rw [e3]
 exact ⟨_, _, _, _, rfl⟩
theorem dLonely_ok (c : List Int) (hc : bytes c) (k : Nat) (hk : 100 < k) : ∃ a l n, spec_DrawLonelyTime.f k c = some (a, l, n) ∧ l.length ≤ 107 := by
 obtain ⟨q, e1, h1, g1⟩ := runners_q c hc k hk
 obtain ⟨p, e2, g2⟩ := pick_q c hc q.2.2.1 q.2.2.2 (wrap64 ((q.2.1.length : Int) + 1)) (by omega)
 obtain ⟨y, e3, g3⟩ := pick_q c hc p.2.1 p.2.2 9 (by omega)
 unfold spec_DrawLonelyTime.f
 rw [e1, Option.bind_some, e2, Option.bind_some, e3, Option.bind_some]
 exact ⟨_, _, _, rfl, h1⟩
theorem dHandicap_ok (c : List Int) (hc : bytes c) : ∃ a s v t u p, spec_DrawHandicapFor.f c = some (a, s, v, t, u, p) := by
 obtain ⟨r1, r2, r3, r4, r5, a1, s1, e1, g1⟩ := twoRunners_ok c hc 0 0 (by omega)
 obtain ⟨x, a2, s2, e2, _, g2⟩ := among_ok c hc a1 s1 [1, 1, 2, 3, 5, 6, 12, 60, 100, 101, 0, (-1)] (by decide) (by omega)
 unfold spec_DrawHandicapFor.f
 rw [e1]
 simp only [Option.bind_some]
 rw [e2]
 exact ⟨_, _, _, _, _, _, rfl⟩
theorem dWinner_ok (c : List Int) (hc : bytes c) (k : Nat) (hk : 100 < k) : ∃ a l p, spec_DrawWinnerOfLaps.f k c = some (a, l, p) ∧ l.length ≤ 107 := by
 obtain ⟨lap, l, a1, s1, e1, h1, g1⟩ := runners_ok c hc k hk
 obtain ⟨x, a2, s2, e2, _, g2⟩ := among_ok c hc a1 s1 [1, 1, 2, 3, 5, 100, 101, 0, (-1)] (by decide) (by omega)
 unfold spec_DrawWinnerOfLaps.f
 rw [e1]
 simp only [Option.bind_some]
 rw [e2]
 exact ⟨_, _, _, rfl, h1⟩
theorem dNearest_ok (c : List Int) (hc : bytes c) (k : Nat) (hk : 100 < k) : ∃ a l n t, spec_DrawNearestOthers.f k c = some (a, l, n, t) ∧ l.length ≤ 107 := by
 obtain ⟨q, e1, h1, g1⟩ := runners_q c hc k hk
 obtain ⟨p, e2, g2⟩ := pick_q c hc q.2.2.1 q.2.2.2 (wrap64 ((q.2.1.length : Int) + 1)) (by omega)
 obtain ⟨y, e3, g3⟩ := pick_q c hc p.2.1 p.2.2 9 (by omega)
 obtain ⟨t, e4⟩ := moment_q c hc y.2.1 y.2.2 (by omega)
 unfold spec_DrawNearestOthers.f
 rw [e1, Option.bind_some, e2, Option.bind_some, e3, Option.bind_some, e4, Option.bind_some]
 exact ⟨_, _, _, _, rfl, h1⟩
theorem dText_ok (c : List Int) (hc : bytes c) (k : Nat) (hk : 100 < k) : ∃ l, spec_DrawRunnersText.f k c = some l ∧ l.length ≤ 107 := by
 obtain ⟨lap, l, a1, s1, e1, h1, g1⟩ := runners_ok c hc k hk
 unfold spec_DrawRunnersText.f
 rw [e1]
 exact ⟨_, rfl, h1⟩
theorem dParse_j0 (c : List Int) (hc : bytes c) (x : ByteArray) (hx : x.size ≤ 20000) (a s : Int) (ha : 0 ≤ a ∧ a ≤ 1000) (k : Nat) (hk : 30 < k) : ∃ y, spec_DrawParseRunners.j0 k x c a s = some y ∧ y.data.toList.length ≤ 1048576 := by
 obtain ⟨k, rfl⟩ : ∃ m, k = m + 1 := ⟨k - 1, by omega⟩
 have hz : ∀ y : ByteArray, y.size = y.data.toList.length := fun y => by rw [Array.length_toList]; rfl
 obtain ⟨q, a1, s1, e1, g1⟩ := one_ok c hc a s 3 (by omega)
 simp only [spec_DrawParseRunners.j0]
 rw [e1]
 simp only [Option.bind_some]
 split
 ·
  obtain ⟨y, a', s', ey, hy⟩ := spoilt_ok c hc x ⟨#[48, 49, 50, 51, 62, 44, 120]⟩ (by decide) (by omega) a1 s1 (by omega) k (by omega)
  rw [ey]
  have := hz y
  exact ⟨_, rfl, by show y.data.toList.length ≤ 1048576; omega⟩
 ·
  have := hz x
  exact ⟨_, rfl, by omega⟩
theorem dParse_ok (c : List Int) (hc : bytes c) (k : Nat) (hk : 1000100 < k) : ∃ s, spec_DrawParseRunners.f k c = some s ∧ s.data.toList.length ≤ 1048576 := by
 obtain ⟨lap, l, a1, s1, e1, h1, g1⟩ := runners_ok c hc k (by omega)
 unfold spec_DrawParseRunners.f
 rw [e1]
 simp only [Option.bind_some]
 rw [spec_trList_eq 1000 l (by omega) k (by omega)]
 simp only [Option.bind_some]
 by_cases h : areRun 1000 l
 ·
  have hl := runsTx_len h l (fun _ hx => hx) h.2.1.2
  rw [decide_eq_true h, if_pos rfl, spec_trText_eq 1000 l h k (by omega)]
  simp only [Option.bind_some]
  exact dParse_j0 c hc _ (by rw [tx_size]; omega) a1 s1 (by omega) k (by omega)
 ·
  rw [decide_eq_false h, if_neg (by decide)]
  exact dParse_j0 c hc _ (by decide) a1 s1 (by omega) k (by omega)
/-- what is asked of texts: those of runners are theirs, those that are read are told back -/
def TX (free : List S35) (text : ByteArray) (b : Bool) (s : ByteArray) (rdl : List S35) (c : Bool) : Prop :=
 (b = true → areRun 1000 free ∧ text = tx (runsTx free)) ∧ (c = true → areRun 1000 rdl ∧ s = tx (runsTx rdl))
theorem qRunners_l0 (l : List S35) (hl : l.length ≤ 1000) (q : Nat) : ∀ (k i : Nat), i + q = l.length → q < k → laws_qRunners.l0 k l l (l.length : Int) (i : Int) = some true := by
 induction q with
 | zero =>
  intro k i hi hk
  obtain ⟨k, rfl⟩ : ∃ m, k = m + 1 := ⟨k - 1, by omega⟩
  simp only [laws_qRunners.l0]
  rw [if_neg (by omega)]
 | succ q ih =>
  intro k i hi hk
  obtain ⟨k, rfl⟩ : ∃ m, k = m + 1 := ⟨k - 1, by omega⟩
  have e1 : wrap64 ((i : Int) + 1) = ((i + 1 : Nat) : Int) := by rw [w64 (by omega)]; rfl
  simp only [laws_qRunners.l0, beq_self_eq_true, Bool.not_true, Bool.or_false, Bool.false_eq_true, if_false]
  rw [if_pos (by omega), if_pos (by omega), if_pos (by omega), if_pos (by omega), e1]
  exact ih k (i + 1) (by omega) (by omega)
theorem qRunners_eq (l : List S35) (hl : l.length ≤ 1000) (k : Nat) (hk : 1000 < k) : laws_qRunners.f k l l = some true := by
 unfold laws_qRunners.f
 rw [if_pos rfl]
 exact qRunners_l0 l hl l.length k 0 (by omega) (by omega)
theorem J17 (free : List S35) (text : ByteArray) (b : Bool) (s : ByteArray) (L : List S35) (c : Bool) (h : TX free text b s L c) (k : Nat) (hk : 3000 < k) : laws_FnRunnersRun.j17 k s L c false = some true := by
 obtain ⟨k, rfl⟩ : ∃ m, k = m + 1 := ⟨k - 1, by omega⟩
 simp only [laws_FnRunnersRun.j17, Bool.false_eq_true, if_false]
 cases c with
 | false => rw [if_neg (by decide)]
 | true =>
  obtain ⟨g, e⟩ := h.2 rfl
  rw [if_pos rfl, impl_RunnersText_yes L g k (by omega), e]
  simp only [Option.bind_some, if_true, beq_self_eq_true]
theorem J15 (free : List S35) (text : ByteArray) (b : Bool) (s : ByteArray) (L : List S35) (c : Bool) (h : TX free text b s L c) (k : Nat) (hk : 2100010 < k) : laws_FnRunnersRun.j15 k free text b s L c = some true := by
 obtain ⟨k, rfl⟩ : ∃ m, k = m + 1 + 1 := ⟨k - 2, by omega⟩
 have j := J17 free text b s L c h k (by omega)
 have no : laws_FnRunnersRun.j16 (k + 1) free text s L c false = some true := by
  simp only [laws_FnRunnersRun.j16, Bool.false_eq_true, if_false]
  cases c with
  | false => rw [if_neg (by decide)]
  | true =>
   obtain ⟨g, e⟩ := h.2 rfl
   rw [if_pos rfl, impl_RunnersText_yes L g k (by omega), e]
   simp only [Option.bind_some, if_true, beq_self_eq_true]
 simp only [laws_FnRunnersRun.j15]
 cases b with
 | false =>
  rw [if_neg (by decide)]
  exact no
 | true =>
  rw [if_pos rfl]
  by_cases z : (text.size : Int) ≤ 60
  ·
   obtain ⟨g, e⟩ := h.1 rfl
   have hl := runsTx_len g free (fun _ hx => hx) g.2.1.2
   have hd : text.data.toList = runsTx free := by rw [e, tx_data]
   have p := impl_ParseRunners_eq text (by rw [hd]; omega) k (by omega)
   rw [hd, runs_round free g] at p
   have g2 := g.2.1
   rw [decide_eq_true z]
   simp only [laws_FnRunnersRun.j16, p, Option.bind_some, if_true, qRunners_eq free (by omega) k (by omega), Bool.not_true]
   exact j
  ·
   rw [decide_eq_false z]
   exact no
/-- laps of one runner, as a time in lowest terms -/
def valid1 (a s v : Int) : Prop := (2 ≤ a ∧ a ≤ 1000) ∧ isRun a s v
instance (a s v : Int) : Decidable (valid1 a s v) := by unfold valid1; infer_instance
def tolV (a s v p : Int) : Int × Int × Bool := if valid1 a s v ∧ (1 ≤ p ∧ p ≤ 100) then (lowN (p * a) v, lowD (p * a) v, true) else (0, 0, false)
theorem onTrack1 (a s v : Int) : impl_onTrack.f a [⟨s, v⟩] = some (decide (valid1 a s v)) := by
 rw [impl_onTrack_eq]
 exact congrArg some (decide_eq_decide.mpr (areRun_one a s v))
theorem trRunner1 (a s v : Int) : spec_trRunner.f a s v = some (decide (valid1 a s v)) := spec_trRunner_eq a s v
theorem tol_range {a s v p : Int} (h : valid1 a s v) (hp : 1 ≤ p ∧ p ≤ 100) : (1 ≤ v ∧ v ≤ 100) ∧ (0 ≤ p * a ∧ p * a ≤ 100000) ∧ (0 ≤ lowN (p * a) v ∧ lowN (p * a) v ≤ 100000) ∧ (1 ≤ lowD (p * a) v ∧ lowD (p * a) v ≤ 100) := by
 obtain ⟨ha, g⟩ := h
 unfold isRun at g
 have m := bm (A := 100) (B := 1000) (a := p) (b := a) (by omega) (by omega)
 have n := low_nonneg (a := p * a) (b := v) (by omega) (by omega)
 have d := lowD_range (a := p * a) (b := v) (by omega)
 omega
theorem tol_impl (a s v p : Int) (k : Nat) (hk : 200000 < k) : impl_TimeOfLaps.f k a s v p = some (tolV a s v p) := by
 unfold impl_TimeOfLaps.f tolV
 rw [onTrack1, impl_areLaps_eq]
 by_cases h : valid1 a s v
 ·
  by_cases hp : 1 ≤ p ∧ p ≤ 100
  ·
   obtain ⟨r1, r2, _, _⟩ := tol_range h hp
   rw [decide_eq_true h, decide_eq_true hp, if_pos ⟨h, hp⟩]
   simp only [Option.bind_some, if_true]
   rw [w64 (x := p * a) (by omega), impl_lowest_eq _ _ _ (by omega) (by omega) (by omega) (by omega)]
   rfl
  ·
   rw [decide_eq_true h, decide_eq_false hp, if_neg (fun z => hp z.2)]
   rfl
 ·
  rw [decide_eq_false h, if_neg (fun z => h z.1)]
  rfl
theorem tol_spec (a s v p : Int) (k : Nat) (hk : 200000 < k) : spec_TimeOfLaps.f k a s v p = some (tolV a s v p) := by
 unfold spec_TimeOfLaps.f tolV
 rw [trRunner1, spec_l1In_eq]
 by_cases h : valid1 a s v
 ·
  by_cases hp : 1 ≤ p ∧ p ≤ 100
  ·
   obtain ⟨r1, r2, r3, r4⟩ := tol_range h hp
   have gp := gpos (a := p * a) (b := v) (by omega)
   rw [decide_eq_true h, decide_eq_true hp, if_pos ⟨h, hp⟩]
   simp only [Option.bind_some, if_true]
   rw [w64 (x := p * a) (by omega), spec_trCommon_eq k _ _ (by omega) (by omega) (by omega)]
   simp only [Option.bind_some]
   rw [if_neg (by omega), tdiv_gcd_l, tdiv_gcd_r, w64 (x := lowN (p * a) v) (by omega), w64 (x := lowD (p * a) v) (by omega)]
  ·
   rw [decide_eq_true h, decide_eq_false hp, if_neg (fun z => hp z.2)]
   rfl
 ·
  rw [decide_eq_false h, if_neg (fun z => h z.1)]
  rfl
/-- the winners: both functions' answer -/
def bestT (a p : Int) (l : List S35) : Int := ceil (p * a) (most 0 l)
def winV (a : Int) (l : List S35) (p : Int) : List Int × Bool := if areRun a l ∧ (1 ≤ p ∧ p ≤ 100) then (winl (fun v => decide (v * bestT a p l ≥ p * a)) 0 l, true) else ([], false)
theorem win_val (a p : Int) (ha : 2 ≤ a ∧ a ≤ 1000) (hp : 1 ≤ p ∧ p ≤ 100) (l : List S35) (hl : 1 ≤ l.length ∧ l.length ≤ 6) (hv : ∀ x ∈ l, 1 ≤ x.f1 ∧ x.f1 ≤ 100) (k : Nat) (hk : 100 < k) :
  spec_WinnerOfLaps.l0 k a l p 1000000 l (l.length : Int) 0 = some (winl (fun v => decide (v * bestT a p l ≥ p * a)) 0 l, true) ∧ impl_WinnerOfLaps.l0 k a l p 0 l (l.length : Int) 0 = some (winl (fun v => decide (v * bestT a p l ≥ p * a)) 0 l, true) := by
 have q2 := bm (A := 100) (B := 1000) (a := p) (b := a) (by omega) (by omega)
 obtain ⟨x, r, rfl⟩ : ∃ x r, l = x :: r := by
  cases l with
  | nil => simp at hl
  | cons x r => exact ⟨x, r, rfl⟩
 have hx := hv x (List.mem_cons_self)
 have hr : ∀ y ∈ r, 1 ≤ y.f1 ∧ y.f1 ≤ 100 := fun y hy => hv y (List.mem_cons_of_mem _ hy)
 have e0 : mx 0 x.f1 = x.f1 := by
  unfold mx
  rw [if_pos (by omega)]
 have eM : most 0 (x :: r) = most x.f1 r := by
  show most (mx 0 x.f1) r = _
  rw [e0]
 have cx := ceil_range (p * a) x.f1 hx.1 q2
 have eL : least (p * a) 1000000 (x :: r) = ceil (p * a) (most x.f1 r) := by
  show least (p * a) (if (1000000 : Int) < ceil (p * a) x.f1 then 1000000 else ceil (p * a) x.f1) r = _
  rw [if_neg (by omega)]
  exact least_most (p * a) q2 r hr x.f1 hx.1
 have mr := most_range r hr x.f1 (by omega)
 have cm := ceil_range (p * a) (most x.f1 r) (by omega) q2
 obtain ⟨k1, h1, h2⟩ := spec_win_l0 a p ha hp (x :: r) hl.2 hv (x :: r).length k 0 1000000 (by omega) (by omega)
 obtain ⟨k2, h3, h4⟩ := impl_win_l0 a p ha hp (x :: r) hl.2 hv (x :: r).length k 0 0 (by omega) (by omega) (by omega) (by rw [List.drop_zero, eM]; omega)
 rw [List.drop_zero, eL] at h2
 rw [List.drop_zero, eM] at h4
 have h5 := spec_win_l1 a p (ceil (p * a) (most x.f1 r)) ha hp cm (x :: r) hl.2 hv (x :: r).length k1 0 [] (by omega) (by omega) (Nat.le_refl 0)
 have h6 := impl_win_l1 a p (ceil (p * a) (most x.f1 r)) ha hp cm (x :: r) hl.2 hv (x :: r).length k2 0 [] (by omega) (by omega) (Nat.le_refl 0)
 rw [List.nil_append, List.drop_zero] at h5 h6
 unfold bestT
 rw [eM]
 exact ⟨h2.trans h5, h4.trans h6⟩
theorem win_both' (a : Int) (l : List S35) (hl : l.length ≤ 1000) (p : Int) (k : Nat) (hk : 2000 < k) : spec_WinnerOfLaps.f k a l p = some (winV a l p) ∧ impl_WinnerOfLaps.f k a l p = some (winV a l p) := by
 obtain ⟨k, rfl⟩ : ∃ m, k = m + 1 := ⟨k - 1, by omega⟩
 have e4 := spec_trList_eq a l (by omega) (k + 1) (by omega)
 have e5 := impl_AreRunners_eq a l
 have e6 := spec_l1In_eq p 1 100
 have e7 := impl_areLaps_eq p
 unfold winV
 by_cases h : areRun a l
 ·
  rw [decide_eq_true h] at e4 e5
  by_cases hp : 1 ≤ p ∧ p ≤ 100
  ·
   rw [decide_eq_true hp] at e6 e7
   obtain ⟨w1, w2⟩ := win_val a p h.1 hp l h.2.1 (fun x hx => (h.2.2 x hx).2) k (by omega)
   rw [if_pos ⟨h, hp⟩]
   constructor
   ·
    simp only [spec_WinnerOfLaps.f, e4, e6, Option.bind_some, if_true, Bool.not_true, spec_WinnerOfLaps.j0, Bool.false_eq_true, if_false, w1]
   ·
    simp only [impl_WinnerOfLaps.f, e5, e7, Option.bind_some, if_true, Bool.not_true, impl_WinnerOfLaps.j0, Bool.false_eq_true, if_false, w2]
  ·
   rw [decide_eq_false hp] at e6 e7
   rw [if_neg (fun z => hp z.2)]
   constructor
   ·
    simp only [spec_WinnerOfLaps.f, e4, e6, Option.bind_some, if_true, Bool.not_false, spec_WinnerOfLaps.j0]
   ·
    simp only [impl_WinnerOfLaps.f, e5, e7, Option.bind_some, if_true, Bool.not_false, impl_WinnerOfLaps.j0]
 ·
  rw [decide_eq_false h] at e4 e5
  rw [if_neg (fun z => h z.1)]
  constructor
  ·
   simp only [spec_WinnerOfLaps.f, e4, Option.bind_some, Bool.false_eq_true, if_false, spec_WinnerOfLaps.j0, if_true]
  ·
   simp only [impl_WinnerOfLaps.f, e5, Option.bind_some, Bool.false_eq_true, if_false, impl_WinnerOfLaps.j0, if_true]
/-- who wins: who has the least time, rounded up -/
theorem wins_iff (a p : Int) (l : List S35) (h : areRun a l) (hp : 1 ≤ p ∧ p ≤ 100) (j : Nat) (hj : j < l.length) : bestT a p l ≤ ceil (p * a) l[j].f1 ∧ (((j : Nat) : Int) ∈ (winV a l p).1 ↔ ceil (p * a) l[j].f1 = bestT a p l) := by
 have hx := (h.2.2 l[j] (List.getElem_mem hj)).2
 have ha := h.1
 have q2 := bm (A := 100) (B := 1000) (a := p) (b := a) (by omega) (by omega)
 have mg := most_ge l 0
 have hm := mg.2 l[j] (List.getElem_mem hj)
 have low := ceil_mono (p * a) l[j].f1 (most 0 l) hx.1 hm q2.1
 have low : bestT a p l ≤ ceil (p * a) l[j].f1 := low
 refine ⟨low, ?_⟩
 unfold winV
 rw [if_pos ⟨h, hp⟩]
 show ((j : Nat) : Int) ∈ winl _ 0 l ↔ _
 rw [winl_mem]
 have le := ceil_le (p * a) l[j].f1 (bestT a p l) hx.1
 constructor
 ·
  rintro ⟨i, hi, e, c⟩
  obtain rfl : i = j := by omega
  rw [decide_eq_true_eq] at c
  have := le.mpr c
  omega
 ·
  intro e
  exact ⟨j, hj, by omega, by rw [decide_eq_true_eq]; exact le.mp (by omega)⟩
theorem wins_some (a p : Int) (l : List S35) (h : areRun a l) (hp : 1 ≤ p ∧ p ≤ 100) : 1 ≤ (winV a l p).1.length := by
 have ⟨x, hx⟩ : ∃ x, x ∈ l := List.exists_mem_of_length_pos (by have := h.2.1; omega)
 have mg := most_ge l 0
 have h1 := (h.2.2 x hx).2
 have h2 := mg.2 x hx
 rcases most_is l 0 with z | ⟨j, hj, z⟩
 ·
  omega
 ·
  have w := (wins_iff a p l h hp j hj).2.mpr (by unfold bestT; rw [z])
  exact List.length_pos_of_mem w
theorem wins_first (a p : Int) (l : List S35) (h : areRun a l) (hp : 1 ≤ p ∧ p ≤ 100) : ∃ j, ∃ hj : j < l.length, rd (winV a l p).1 0 = (j : Int) ∧ ceil (p * a) l[j].f1 = bestT a p l := by
 have hs := wins_some a p l h hp
 have hm : rd (winV a l p).1 0 ∈ (winV a l p).1 := by
  have e : rd (winV a l p).1 0 = (winV a l p).1[0] := by
   have h0 : 0 < (winV a l p).1.length := hs
   simp [rd, List.getElem?_eq_getElem h0]
  rw [e]
  exact List.getElem_mem _
 have hm2 := hm
 unfold winV at hm2
 rw [if_pos ⟨h, hp⟩] at hm2
 obtain ⟨j, hj, e, _⟩ := (winl_mem _ l 0 _).mp hm2
 rw [Nat.zero_add] at e
 refine ⟨j, hj, ?_, ?_⟩
 ·
  rw [← e]
  unfold winV
  rw [if_pos ⟨h, hp⟩]
 ·
  refine (wins_iff a p l h hp j hj).2.mp ?_
  rw [← e]
  unfold winV at hm ⊢
  rw [if_pos ⟨h, hp⟩] at hm ⊢
  exact hm
theorem wins_len (a p : Int) (l : List S35) (hl : l.length ≤ 1000) : (winV a l p).1.length ≤ 1000 := by
 unfold winV
 split
 ·
  exact Nat.le_trans (winl_length _ _ 0) hl
 ·
  simp
theorem L2 (a p : Int) (l : List S35) (h : areRun a l) (hp : 1 ≤ p ∧ p ≤ 100) (free : List S35) (text : ByteArray) (b : Bool) (s : ByteArray) (L : List S35) (c : Bool) (hT : TX free text b s L c) (q : Nat) : ∀ (k i : Nat), i + q = l.length → 2200000 + q < k →
  laws_FnRunnersRun.l2 k a l p (winV a l p).1 free text b s L c l (l.length : Int) (i : Int) = some true := by
 have hl6 := h.2.1
 induction q with
 | zero =>
  intro k i hi hk
  obtain ⟨k, rfl⟩ : ∃ m, k = m + 1 := ⟨k - 1, by omega⟩
  simp only [laws_FnRunnersRun.l2]
  rw [if_neg (by omega)]
  exact J15 free text b s L c hT k (by omega)
 | succ q ih =>
  intro k i hi hk
  obtain ⟨k, rfl⟩ : ∃ m, k = m + 1 := ⟨k - 1, by omega⟩
  have hlt : i < l.length := by omega
  have e1 : wrap64 ((i : Int) + 1) = ((i + 1 : Nat) : Int) := by rw [w64 (by omega)]; rfl
  have er : rd_T35 l (i : Int) = l[i] := by simp [rd_T35, hlt]
  obtain ⟨w, hw, ew, cw⟩ := wins_first a p l h hp
  have erw : rd_T35 l (w : Int) = l[w] := by simp [rd_T35, hw]
  have hs := wins_some a p l h hp
  have hlen := wins_len a p l (by omega)
  have vi : valid1 a l[i].f0 l[i].f1 := ⟨h.1, h.2.2 l[i] (List.getElem_mem hlt)⟩
  have vw : valid1 a l[w].f0 l[w].f1 := ⟨h.1, h.2.2 l[w] (List.getElem_mem hw)⟩
  have ti := tol_impl a l[i].f0 l[i].f1 p k (by omega)
  have tw := tol_impl a l[w].f0 l[w].f1 p k (by omega)
  unfold tolV at ti tw
  rw [if_pos ⟨vi, hp⟩] at ti
  rw [if_pos ⟨vw, hp⟩] at tw
  obtain ⟨i1, i2, i3, i4⟩ := tol_range vi hp
  obtain ⟨w1, w2, w3, w4⟩ := tol_range vw hp
  have ci := ceil_low (p * a) l[i].f1 i1.1 i2.1
  have cv := ceil_low (p * a) l[w].f1 w1.1 w2.1
  have ri := ceil_range (p * a) l[i].f1 i1.1 i2
  have rw_ := ceil_range (p * a) l[w].f1 w1.1 w2
  have qh := laws_qHas_eq (winV a l p).1 (i : Int) (by omega) k (by omega)
  obtain ⟨low, iff⟩ := wins_iff a p l h hp i hlt
  have next := ih k (i + 1) (by omega) (by omega)
  simp only [laws_FnRunnersRun.l2]
  rw [if_pos (by omega), if_pos (by omega), if_pos (by omega), er, ti]
  simp only [Option.bind_some]
  rw [if_pos (by omega), ew, if_pos (by omega), if_pos (by omega), erw, tw]
  simp only [Option.bind_some, if_true, qh]
  rw [if_neg (by omega), if_neg (by omega)]
  rw [w64 (x := lowN (p * a) l[i].f1 + lowD (p * a) l[i].f1) (by omega), w64 (x := lowN (p * a) l[i].f1 + lowD (p * a) l[i].f1 - 1) (by omega), w64 (x := lowN (p * a) l[w].f1 + lowD (p * a) l[w].f1) (by omega), w64 (x := lowN (p * a) l[w].f1 + lowD (p * a) l[w].f1 - 1) (by omega), ci, cv, w64 (x := ceil (p * a) l[i].f1) (by omega), w64 (x := ceil (p * a) l[w].f1) (by omega), cw, e1]
  have same : decide ((i : Int) ∈ (winV a l p).1) = (ceil (p * a) l[i].f1 == bestT a p l) := by
   rw [Bool.eq_iff_iff, decide_eq_true_eq, iff, beq_iff_eq]
  rw [same, bne_self_eq_false, if_neg (by decide), if_neg (by omega)]
  exact next
theorem J12 (a p : Int) (l : List S35) (hl : l.length ≤ 1000) (free : List S35) (text : ByteArray) (b : Bool) (s : ByteArray) (L : List S35) (c : Bool) (hT : TX free text b s L c) (k : Nat) (hk : 2300000 < k) :
  laws_FnRunnersRun.j12 k a l p (winV a l p).1 (winV a l p).2 free text b s L c = some true := by
 obtain ⟨k, rfl⟩ : ∃ m, k = m + 1 + 1 := ⟨k - 2, by omega⟩
 have j := J15 free text b s L c hT (k + 1) (by omega)
 by_cases h : areRun a l ∧ (1 ≤ p ∧ p ≤ 100)
 ·
  have e2 : (winV a l p).2 = true := by unfold winV; rw [if_pos h]
  have hs := wins_some a p l h.1 h.2
  have hlen := wins_len a p l hl
  have hr : (winV a l p).1.Pairwise (· < ·) := by
   unfold winV
   rw [if_pos h]
   exact winl_rises _ _ 0
  have q := laws_qRises_eq (winV a l p).1 (by omega) hr (k + 1) (by omega)
  have g := h.1.2.1
  have l2 := L2 a p l h.1 h.2 free text b s L c hT l.length k 0 (by omega) (by omega)
  simp only [laws_FnRunnersRun.j12, e2, if_true]
  rw [if_neg (by omega), q]
  simp only [Option.bind_some, Bool.not_true, laws_FnRunnersRun.j13, Bool.false_eq_true, if_false]
  exact l2
 ·
  have e2 : (winV a l p).2 = false := by unfold winV; rw [if_neg h]
  simp only [laws_FnRunnersRun.j12, e2, Bool.false_eq_true, if_false]
  exact j
theorem trTwo_two (a s v t u : Int) : spec_trTwo.f a s v t u = some (decide (two a s v t u)) := spec_trTwo_eq a s v t u
/-- handicaps: both functions' answer -/
def hanV (a s v t u p : Int) : Int × Bool := if two a s v t u ∧ (1 ≤ p ∧ p ≤ 100) ∧ p * a % v = 0 then (s + v * (p * a / v) - (t + u * (p * a / v)), true) else (0, false)
theorem han_range {a s v t u p : Int} (h : two a s v t u) (hp : 1 ≤ p ∧ p ≤ 100) : (1 ≤ v ∧ v ≤ 100) ∧ (0 ≤ p * a ∧ p * a ≤ 100000) ∧ (0 ≤ p * a / v ∧ p * a / v ≤ 100000) := by
 obtain ⟨⟨ha, g⟩, _⟩ := h
 unfold isRun at g
 have m := bm (A := 100) (B := 1000) (a := p) (b := a) (by omega) (by omega)
 have d0 := Int.ediv_nonneg m.1 (show 0 ≤ v by omega)
 have d1 := Int.ediv_le_self v m.1
 omega
theorem han_both (a s v t u p : Int) (k : Nat) (hk : 2 < k) : spec_HandicapFor.f k a s v t u p = some (hanV a s v t u p) ∧ impl_HandicapFor.f k a s v t u p = some (hanV a s v t u p) := by
 obtain ⟨k, rfl⟩ : ∃ m, k = m + 1 := ⟨k - 1, by omega⟩
 unfold hanV spec_HandicapFor.f impl_HandicapFor.f
 rw [trTwo_two, onTrack_two, spec_l1In_eq, impl_areLaps_eq]
 by_cases h : two a s v t u
 ·
  by_cases hp : 1 ≤ p ∧ p ≤ 100
  ·
   obtain ⟨r1, r2, r3⟩ := han_range h hp
   have et : Int.tmod (p * a) v = p * a % v := Int.tmod_eq_emod_of_nonneg r2.1
   have ed : Int.tdiv (p * a) v = p * a / v := Int.tdiv_eq_ediv_of_nonneg r2.1
   have f := far_two h (n := p * a / v) (by omega)
   have g := h
   obtain ⟨⟨ha, g1⟩, _, g2⟩ := g
   unfold isRun at g1 g2
   rw [decide_eq_true h, decide_eq_true hp]
   simp only [Option.bind_some, if_true]
   have v0 : ¬ v = 0 := by omega
   rw [if_neg v0, if_neg v0, w64 (x := p * a) (by omega), et]
   by_cases z : p * a % v = 0
   ·
    rw [if_pos (show two a s v t u ∧ (1 ≤ p ∧ p ≤ 100) ∧ p * a % v = 0 from ⟨h, hp, z⟩), z, bne_self_eq_false]
    simp only [spec_HandicapFor.j0, impl_HandicapFor.j0, Bool.false_eq_true, if_false]
    rw [if_neg v0, if_neg v0, w64 (x := p * a) (by omega), ed, w64 (x := p * a / v) (by omega), spec_trFar_eq s v _ (by omega) g1.2 (by omega), f.2.2.2.2.1]
    simp only [Option.bind_some]
    rw [spec_trFar_eq t u _ (by omega) g2.2 (by omega), f.2.2.2.2.2]
    simp only [Option.bind_some]
    rw [w64 (by omega)]
    exact ⟨by trivial, by trivial⟩
   ·
    have nb : (p * a % v != 0) = true := bne_iff_ne.mpr z
    rw [if_neg (show ¬ (two a s v t u ∧ (1 ≤ p ∧ p ≤ 100) ∧ p * a % v = 0) from fun y => z y.2.2), nb]
    simp only [spec_HandicapFor.j0, impl_HandicapFor.j0, if_true, and_self]
  ·
   rw [decide_eq_true h, decide_eq_false hp, if_neg (show ¬ (two a s v t u ∧ (1 ≤ p ∧ p ≤ 100) ∧ p * a % v = 0) from fun y => hp y.2.1)]
   simp only [Option.bind_some, if_true, Bool.false_eq_true, if_false, spec_HandicapFor.j0, impl_HandicapFor.j0, and_self]
 ·
  rw [decide_eq_false h, if_neg (show ¬ (two a s v t u ∧ (1 ≤ p ∧ p ≤ 100) ∧ p * a % v = 0) from fun y => h y.1)]
  simp only [Option.bind_some, Bool.false_eq_true, if_false, spec_HandicapFor.j0, impl_HandicapFor.j0, if_true, and_self]
theorem low_whole (x v : Int) (hv : 1 ≤ v) (h : x % v = 0) : lowN x v = x / v ∧ lowD x v = 1 := by
 have e : x = x / v * v := by
  have := Int.mul_ediv_add_emod x v
  have c : v * (x / v) = x / v * v := Int.mul_comm _ _
  omega
 have k := low_eq (a := x) (b := v) (c := x / v) (d := 1) (by omega) (by omega) (by rw [Int.mul_one]; exact e)
 rw [k.1, k.2]
 unfold lowN lowD
 simp
theorem qLow_low (x v : Int) (hx : 0 ≤ x) (hv : 1 ≤ v) (k : Nat) (hk : v + 3 < k) : laws_qLow.f k (lowN x v) (lowD x v) = some true := by
 have r := lowD_range (a := x) (b := v) (by omega)
 have n := low_nonneg (a := x) (b := v) hx (by omega)
 have g := low_gcd x v (by omega)
 have go : ∀ (m : Nat) (k : Nat) (a b : Int), 0 ≤ a → 0 ≤ b → b ≤ m → m + 1 < k → Int.gcd a b = 1 → laws_qLow.l0 k a b = some true := by
  intro m
  induction m with
  | zero =>
   intro k a b ha hb hm hk e
   obtain ⟨k, rfl⟩ : ∃ m, k = m + 1 := ⟨k - 1, by omega⟩
   obtain rfl : b = 0 := by omega
   have : a = 1 := by rw [Int.gcd_zero_right] at e; omega
   subst this
   simp only [laws_qLow.l0]
   rw [if_neg (by omega)]
   rfl
  | succ m ih =>
   intro k a b ha hb hm hk e
   obtain ⟨k, rfl⟩ : ∃ m, k = m + 1 := ⟨k - 1, by omega⟩
   simp only [laws_qLow.l0]
   by_cases h : b > 0
   ·
    rw [if_pos h, if_neg (by omega)]
    have h1 : 0 ≤ a.tmod b := Int.tmod_nonneg b ha
    have h2 : a.tmod b < b := Int.tmod_lt_of_pos a h
    exact ih k b (a.tmod b) hb h1 (by omega) (by omega) ((gcd_step a b ha hb).trans e)
   ·
    obtain rfl : b = 0 := by omega
    have : a = 1 := by rw [Int.gcd_zero_right] at e; omega
    subst this
    rw [if_neg (by omega)]
    rfl
 obtain ⟨k, rfl⟩ : ∃ m, k = m + 1 := ⟨k - 1, by omega⟩
 unfold laws_qLow.f
 rw [if_neg (by omega), decide_eq_false (by omega)]
 simp only [laws_qLow.j0, Bool.false_eq_true, if_false]
 exact go (lowD x v).toNat k _ _ n.1 (by omega) (by omega) (by omega) g
/-- the parts behind the lonely times: a lap, two runners and so many laps (a s v t u p), a team's (d T g) -/
theorem J9 (a s v t u p : Int) (d g : Int) (T : List S35) (hT' : T.length ≤ 1000) (free : List S35) (text : ByteArray) (b : Bool) (z : ByteArray) (L : List S35) (c : Bool) (hT : TX free text b z L c) (k : Nat) (hk : 2400000 < k) :
  laws_FnRunnersRun.j9 k a p (hanV a s v t u p).1 (hanV a s v t u p).2 (tolV a s v p).1 (tolV a s v p).2.1 (tolV a s v p).2.2 d T g (winV d T g).1 (winV d T g).2 free text b z L c s v t u = some true := by
 obtain ⟨k, rfl⟩ : ∃ m, k = m + 1 + 1 + 1 := ⟨k - 3, by omega⟩
 have j12 := J12 d g T hT' free text b z L c hT (k + 1) (by omega)
 have j12' := J12 d g T hT' free text b z L c hT k (by omega)
 have j10 : laws_FnRunnersRun.j10 (k + 1 + 1) a (hanV a s v t u p).1 (hanV a s v t u p).2 (tolV a s v p).1 (tolV a s v p).2.1 (tolV a s v p).2.2 d T g (winV d T g).1 (winV d T g).2 free text b z L c false s v t u = some true := by
  simp only [laws_FnRunnersRun.j10, Bool.false_eq_true, if_false]
  by_cases h : two a s v t u ∧ (1 ≤ p ∧ p ≤ 100) ∧ p * a % v = 0
  ·
   have e1 : hanV a s v t u p = (s + v * (p * a / v) - (t + u * (p * a / v)), true) := by unfold hanV; rw [if_pos h]
   obtain ⟨r1, r2, r3⟩ := han_range h.1 h.2.1
   have w := low_whole (p * a) v r1.1 h.2.2
   have e2 : tolV a s v p = (p * a / v, 1, true) := by
    unfold tolV
    rw [if_pos ⟨⟨h.1.1.1, h.1.1.2⟩, h.2.1⟩, w.1, w.2]
   have ld := impl_LeadBetween_eq a s v t u (p * a / v) (k + 1 - 1 + 1) (by omega)
   rw [if_pos ⟨h.1, by omega⟩] at ld
   have ld' := impl_LeadBetween_eq a s v t u (p * a / v) k (by omega)
   rw [if_pos ⟨h.1, by omega⟩] at ld'
   rw [e1, e2]
   simp only [if_true, bne_self_eq_false, laws_FnRunnersRun.j11, Bool.false_eq_true, if_false, ld', Option.bind_some]
   exact j12'
  ·
   have e1 : hanV a s v t u p = (0, false) := by unfold hanV; rw [if_neg h]
   rw [e1]
   simp only [Bool.false_eq_true, if_false]
   exact j12
 simp only [laws_FnRunnersRun.j9]
 by_cases h : valid1 a s v ∧ (1 ≤ p ∧ p ≤ 100)
 ·
  obtain ⟨r1, r2, r3, r4⟩ := tol_range h.1 h.2
  have e1 : tolV a s v p = (lowN (p * a) v, lowD (p * a) v, true) := by unfold tolV; rw [if_pos h]
  have ql := qLow_low (p * a) v r2.1 r1.1 (k + 1 + 1) (by omega)
  have cc := low_cross (p * a) v
  have m1 := bm (A := 100000) (B := 100) (a := lowN (p * a) v) (b := v) (by omega) (by omega)
  have m2 := bm (A := 100000) (B := 100) (a := p * a) (b := lowD (p * a) v) (by omega) (by omega)
  rw [e1] at j10 ⊢
  simp only [if_true, laws_qIs.f]
  rw [w64 (x := p * a) (by omega), ql]
  simp only [Option.bind_some, if_true]
  rw [w64 (x := lowN (p * a) v * v) (by omega), w64 (x := p * a * lowD (p * a) v) (by omega), cc]
  simp only [beq_self_eq_true, Bool.not_true]
  exact j10
 ·
  have e1 : tolV a s v p = (0, 0, false) := by unfold tolV; rw [if_neg h]
  rw [e1] at j10 ⊢
  simp only [Bool.false_eq_true, if_false]
  exact j10
/-- lonely times: both functions' answer -/
def nearN (a : Int) (l : List S35) (n : Nat) (t : Int) : Int := nst a t n (l.getD n ⟨0, 0⟩) a 0 l
def lonV (a : Int) (l : List S35) (n : Int) : Int × Bool := if asked a l n then (lt (nearN a l n.toNat) (a / gf a l - 1).toNat 0 1, true) else (0, false)
theorem per_range (a : Int) (l : List S35) (ha : 2 ≤ a ∧ a ≤ 1000) : 1 ≤ a / gf a l ∧ a / gf a l ≤ 1000 := by
 have gr := gf_range l a (by omega)
 have p1 := Int.ediv_le_self (gf a l) (show 0 ≤ a by omega)
 have p2 : 1 ≤ a / gf a l := by
  apply Int.le_ediv_of_mul_le gr.1
  omega
 omega
theorem getD_at (l : List S35) (n : Nat) (hn : n < l.length) : l.getD n ⟨0, 0⟩ = l[n] := by simp [hn]
theorem lonely_val (a : Int) (ha : 2 ≤ a ∧ a ≤ 1000) (l : List S35) (hl : l.length ≤ 6) (hv : ∀ x ∈ l, isRun a x.f0 x.f1) (n : Nat) (hn : n < l.length) (k : Nat) (hk : 2000 < k) :
  spec_LonelyTime.l0 k a l (n : Int) 0 1 = some (lt (nearN a l n) (a / gf a l - 1).toNat 0 1, true) ∧ impl_LonelyTime.l0 k a l (n : Int) 0 (-1) (a / gf a l) 0 = some (lt (nearN a l n) (a / gf a l - 1).toNat 0 1, true) := by
 have pr := per_range a l ha
 have eN : nearN a l n = fun t => nst a t n l[n] a 0 l := by
  funext t
  unfold nearN
  rw [getD_at l n hn]
 have hd : (1 : Int) + ((a / gf a l - 1).toNat : Nat) = a / gf a l := by omega
 rw [eN]
 refine ⟨spec_lonely_l0 a ha l hl hv n hn _ k 0 1 hd (by omega) (by omega) (by omega), ?_⟩
 obtain ⟨k, rfl⟩ : ∃ m, k = m + 1 := ⟨k - 1, by omega⟩
 have nn := nst_range a 0 ha n l[n] l a 0 (by omega)
 simp only [impl_LonelyTime.l0]
 rw [if_pos (by omega), impl_nearestOther_eq a ha l hl hv n hn 0 (by omega) k (by omega)]
 simp only [Option.bind_some]
 rw [if_pos (by omega), w64 (by omega)]
 exact impl_lonely_l0 a ha l hl hv n hn _ (by omega) _ k 0 (0 + 1) (by omega) (by omega) (by omega)
theorem lonely_both' (a : Int) (l : List S35) (hl : l.length ≤ 1000) (n : Int) (k : Nat) (hk : 3000 < k) : spec_LonelyTime.f k a l n = some (lonV a l n) ∧ impl_LonelyTime.f k a l n = some (lonV a l n) := by
 have e4 := spec_trAsked_eq a l n (by omega) k (by omega)
 have e5 := impl_areRunnersOf_eq a l n (by omega)
 unfold lonV
 by_cases h : asked a l n
 ·
  rw [decide_eq_true h] at e4 e5
  have g := h
  obtain ⟨⟨g1, g2, g3⟩, g4, g5⟩ := g
  obtain ⟨m, rfl⟩ := Int.eq_ofNat_of_zero_le g5.1
  obtain ⟨v1, v2⟩ := lonely_val a g1 l g2.2 g3 m (by omega) k (by omega)
  have e8 := impl_runPeriod_eq a g1 l g2.2 (fun x hx => (g3 x hx).2) k (by omega)
  rw [if_pos h, Int.toNat_natCast]
  simp only [spec_LonelyTime.f, impl_LonelyTime.f, e4, e5, Option.bind_some, if_true, v1, e8, v2, and_self]
 ·
  rw [decide_eq_false h] at e4 e5
  rw [if_neg h]
  simp [spec_LonelyTime.f, impl_LonelyTime.f, e4, e5]
theorem near_yes (a : Int) (l : List S35) (n : Nat) (h : asked a l (n : Int)) (t : Int) (ht : 0 ≤ t ∧ t ≤ 1000000) (k : Nat) (hk : 10 < k) : impl_NearestOthers.f k a l (n : Int) t = some (nearN a l n t, true) := by
 have hl := h.1.2.1
 have g5 := h.2.2
 have e5 := impl_areRunnersOf_eq a l (n : Int) (by omega)
 have e7 := impl_nearestOther_eq a h.1.1 l hl.2 h.1.2.2 n (by omega) t ht k (by omega)
 rw [decide_eq_true h] at e5
 simp only [impl_NearestOthers.f, e5, impl_isRunTime_eq, decide_eq_true ht, Option.bind_some, if_true, e7]
 unfold nearN
 rw [getD_at l n (by omega)]
theorem near_both (a : Int) (l : List S35) (hl : l.length ≤ 1000) (n t : Int) (k : Nat) (hk : 2000 < k) : ∃ y, spec_NearestOthers.f k a l n t = some y ∧ impl_NearestOthers.f k a l n t = some y := by
 obtain ⟨k, rfl⟩ : ∃ m, k = m + 1 := ⟨k - 1, by omega⟩
 have e4 := spec_trAsked_eq a l n (by omega) (k + 1) (by omega)
 have e5 := impl_areRunnersOf_eq a l n (by omega)
 by_cases h : asked a l n
 ·
  rw [decide_eq_true h] at e4 e5
  by_cases ht : 0 ≤ t ∧ t ≤ 1000000
  ·
   have g := h
   obtain ⟨⟨g1, g2, g3⟩, g4, g5⟩ := g
   obtain ⟨m, rfl⟩ := Int.eq_ofNat_of_zero_le g5.1
   have e6 : ∀ j, 20 < j → spec_trNearest.f j a l (m : Int) t = some (nst a t m (l[m]'(by omega)) a 0 l) := fun j hj => spec_trNearest_eq a g1 l g2.2 g3 m (by omega) t ht j (by omega)
   have e7 := impl_nearestOther_eq a g1 l g2.2 g3 m (by omega) t ht (k + 1) (by omega)
   refine ⟨(nst a t m (l[m]'(by omega)) a 0 l, true), ?_, ?_⟩
   ·
    simp [spec_NearestOthers.f, e4, spec_trTime_eq, ht, e6 (k + 1) (by omega)]
   ·
    simp [impl_NearestOthers.f, e5, impl_isRunTime_eq, ht, e7]
  ·
   refine ⟨(0, false), ?_, ?_⟩
   ·
    simp [spec_NearestOthers.f, e4, spec_trTime_eq, ht]
   ·
    simp [impl_NearestOthers.f, e5, impl_isRunTime_eq, ht]
 ·
  rw [decide_eq_false h] at e4 e5
  refine ⟨(0, false), ?_, ?_⟩
  ·
   simp [spec_NearestOthers.f, e4]
  ·
   simp [impl_NearestOthers.f, e5]
theorem L1 (b : Int) (l : List S35) (n : Nat) (h : asked b l (n : Int)) (R P : Int) (hP : P ≤ 1000) (hR : 0 ≤ R) (top : ∀ x, 0 ≤ x → x < P → nearN b l n x ≤ nearN b l n R) (fst_ : ∀ x, 0 ≤ x → x < R → nearN b l n x < nearN b l n R)
  (a s v t u p : Int) (d g : Int) (T : List S35) (hT' : T.length ≤ 1000) (free : List S35) (text : ByteArray) (e : Bool) (z : ByteArray) (L : List S35) (c : Bool) (hT : TX free text e z L c) (q : Nat) : ∀ (k : Nat) (x : Int), 0 ≤ x → 41 - x ≤ q → 2500000 + 2 * q < k →
  laws_FnRunnersRun.l1 k b l (n : Int) R a p (hanV a s v t u p).1 (hanV a s v t u p).2 (tolV a s v p).1 (tolV a s v p).2.1 (tolV a s v p).2.2 d T g (winV d T g).1 (winV d T g).2 free text e z L c (nearN b l n R) P x s v t u = some true := by
 induction q with
 | zero =>
  intro k x h0 hq hk
  obtain ⟨k, rfl⟩ : ∃ m, k = m + 1 + 1 := ⟨k - 2, by omega⟩
  have j := J9 a s v t u p d g T hT' free text e z L c hT k (by omega)
  simp only [laws_FnRunnersRun.l1, laws_FnRunnersRun.j8, Bool.false_eq_true, if_false]
  rw [decide_eq_false (show ¬ x < 40 by omega)]
  simp only [Bool.false_eq_true, if_false]
  split <;> exact j
 | succ q ih =>
  intro k x h0 hq hk
  obtain ⟨k, rfl⟩ : ∃ m, k = m + 1 + 1 := ⟨k - 2, by omega⟩
  have j := J9 a s v t u p d g T hT' free text e z L c hT k (by omega)
  simp only [laws_FnRunnersRun.l1, laws_FnRunnersRun.j8, Bool.false_eq_true, if_false]
  by_cases h1 : x < P
  ·
   rw [if_pos h1]
   by_cases h2 : x < 40
   ·
    have m := near_yes b l n h x (by omega) k (by omega)
    have t1 := top x h0 h1
    have next := ih k (x + 1) (by omega) (by omega) (by omega)
    rw [decide_eq_true h2, if_pos rfl, m]
    simp only [Option.bind_some, if_true]
    rw [if_neg (by omega), w64 (x := x + 1) (by omega)]
    by_cases h3 : x < R
    ·
     have t2 := fst_ x h0 h3
     rw [if_pos h3, if_neg (by omega)]
     exact next
    ·
     rw [if_neg h3]
     exact next
   ·
    rw [decide_eq_false h2, if_neg (by decide)]
    exact j
  ·
   rw [if_neg h1]
   exact j
theorem J5 (b : Int) (l : List S35) (hl : l.length ≤ 1000) (n : Int) (a s v t u p : Int) (d g : Int) (T : List S35) (hT' : T.length ≤ 1000) (free : List S35) (text : ByteArray) (e : Bool) (z : ByteArray) (L : List S35) (c : Bool) (hT : TX free text e z L c) (k : Nat) (hk : 2600000 < k) :
  laws_FnRunnersRun.j5 k b l n (lonV b l n).1 (lonV b l n).2 a p (hanV a s v t u p).1 (hanV a s v t u p).2 (tolV a s v p).1 (tolV a s v p).2.1 (tolV a s v p).2.2 d T g (winV d T g).1 (winV d T g).2 free text e z L c false s v t u = some true := by
 obtain ⟨k, rfl⟩ : ∃ m, k = m + 1 + 1 := ⟨k - 2, by omega⟩
 have j := J9 a s v t u p d g T hT' free text e z L c hT (k + 1) (by omega)
 simp only [laws_FnRunnersRun.j5, Bool.false_eq_true, if_false]
 by_cases h : asked b l n
 ·
  have hh := h
  obtain ⟨⟨g1, g2, g3⟩, g4, g5⟩ := hh
  obtain ⟨m, rfl⟩ := Int.eq_ofNat_of_zero_le g5.1
  have ev : lonV b l (m : Int) = (lt (nearN b l m) (b / gf b l - 1).toNat 0 1, true) := by
   unfold lonV
   rw [if_pos h, Int.toNat_natCast]
  have pr := per_range b l g1
  obtain ⟨s1, s2, s3, s4⟩ := lt_spec (nearN b l m) (b / gf b l - 1).toNat 0 1 (by omega)
  rw [ev]
  simp only
  generalize lt (nearN b l m) (b / gf b l - 1).toNat 0 1 = R at *
  have r0 : 0 ≤ R ∧ R < b / gf b l := by
   rcases s1 with s1 | s1
   ·
    omega
   ·
    omega
  have n1 := near_yes b l m h R (by omega) (k + 1) (by omega)
  have ar := impl_AreRunners_eq b l
  have rp := impl_runPeriod_eq b g1 l g2.2 (fun x hx => (g3 x hx).2) (k + 1) (by omega)
  rw [decide_eq_true ⟨g1, g2, g3⟩] at ar
  have half : 2 * nearN b l m R ≤ b := by
   unfold nearN
   refine nst_half b R g1.1 m _ l b 0 ?_
   by_cases z0 : m = 0
   ·
    exact ⟨1, g4, by omega⟩
   ·
    exact ⟨0, by omega, by omega⟩
  have nr : 0 ≤ nearN b l m R := (nst_range b R g1 m _ l b 0 (by omega)).1
  rw [if_pos True.intro, n1]
  simp only [impl_RunPeriod.f, ar, Option.bind_some, if_true, rp]
  rw [if_neg (by omega), if_neg (by omega), w64 (x := 2 * nearN b l m R) (by omega), decide_eq_false (by omega)]
  simp only [laws_FnRunnersRun.j6, Bool.false_eq_true, if_false]
  refine L1 b l m h R (b / gf b l) pr.2 r0.1 ?_ ?_ a s v t u p d g T hT' free text e z L c hT 41 k 0 (by omega) (by omega) (by omega)
  ·
   intro x x0 x1
   by_cases y : x = 0
   ·
    rw [y]
    exact s2
   ·
    exact s3 x (by omega) (by omega)
  ·
   intro x x0 x1
   by_cases y : x = 0
   ·
    rw [y]
    rcases s1 with s1 | s1
    ·
     omega
    ·
     exact s1.2.2
   ·
    exact s4 x (by omega) x1
 ·
  have ev : lonV b l n = (0, false) := by unfold lonV; rw [if_neg h]
  rw [ev]
  simp only [Bool.false_eq_true, if_false]
  exact j
/-- laps and places: both functions' answers -/
def lapV (a s v n : Int) : Int × Bool := if valid1 a s v ∧ (0 ≤ n ∧ n ≤ 1000000) then (v * n / a, true) else (0, false)
def plcV (a s v n : Int) : Int × Bool := if valid1 a s v ∧ (0 ≤ n ∧ n ≤ 1000000) then ((s + v * n) % a, true) else (0, false)
theorem lap_range {a s v n : Int} (h : valid1 a s v) (hn : 0 ≤ n ∧ n ≤ 1000000) : (0 ≤ s ∧ s ≤ 999) ∧ (1 ≤ v ∧ v ≤ 100) ∧ (0 ≤ v * n ∧ v * n ≤ 100000000) ∧ (0 ≤ v * n / a ∧ v * n / a ≤ 100000000) := by
 obtain ⟨ha, g⟩ := h
 unfold isRun at g
 have m := bm (A := 100) (B := 1000000) (a := v) (b := n) (by omega) hn
 have d0 := Int.ediv_nonneg m.1 (show 0 ≤ a by omega)
 have d1 := Int.ediv_le_self a m.1
 omega
theorem lap_both (a s v n : Int) : spec_LapsAt.f a s v n = some (lapV a s v n) ∧ impl_LapsAt.f a s v n = some (lapV a s v n) := by
 unfold lapV spec_LapsAt.f impl_LapsAt.f
 rw [trRunner1, onTrack1, spec_trTime_eq, impl_isRunTime_eq]
 by_cases h : valid1 a s v
 ·
  by_cases hn : 0 ≤ n ∧ n ≤ 1000000
  ·
   obtain ⟨r1, r2, r3, r4⟩ := lap_range h hn
   have ha := h.1
   rw [decide_eq_true h, decide_eq_true hn, if_pos (show valid1 a s v ∧ (0 ≤ n ∧ n ≤ 1000000) from ⟨h, hn⟩)]
   simp only [Option.bind_some, if_true]
   rw [if_neg (show ¬ a = 0 by omega), w64 (x := v * n) (by omega), Int.tdiv_eq_ediv_of_nonneg r3.1, w64 (by omega)]
   exact ⟨by trivial, by trivial⟩
  ·
   rw [decide_eq_true h, decide_eq_false hn, if_neg (show ¬ (valid1 a s v ∧ (0 ≤ n ∧ n ≤ 1000000)) from fun z => hn z.2)]
   exact ⟨by trivial, by trivial⟩
 ·
  rw [decide_eq_false h, if_neg (show ¬ (valid1 a s v ∧ (0 ≤ n ∧ n ≤ 1000000)) from fun z => h z.1)]
  exact ⟨by trivial, by trivial⟩
theorem plc_both (a s v n : Int) : spec_PlaceOnTrack.f a s v n = some (plcV a s v n) ∧ impl_PlaceOnTrack.f a s v n = some (plcV a s v n) := by
 unfold plcV spec_PlaceOnTrack.f impl_PlaceOnTrack.f
 rw [trRunner1, onTrack1, spec_trTime_eq, impl_isRunTime_eq]
 by_cases h : valid1 a s v
 ·
  by_cases hn : 0 ≤ n ∧ n ≤ 1000000
  ·
   obtain ⟨r1, r2, r3, r4⟩ := lap_range h hn
   have ha := h.1
   have p := far_range s v n r1 r2 hn
   rw [decide_eq_true h, decide_eq_true hn, if_pos (show valid1 a s v ∧ (0 ≤ n ∧ n ≤ 1000000) from ⟨h, hn⟩)]
   simp only [Option.bind_some, if_true]
   rw [spec_trPlace_eq a s v n ha r1 r2 hn, impl_farAt_eq s v n r1 r2 hn]
   simp only [Option.bind_some]
   rw [if_neg (show ¬ a = 0 by omega), Int.tmod_eq_emod_of_nonneg p.1]
   exact ⟨by trivial, by trivial⟩
  ·
   rw [decide_eq_true h, decide_eq_false hn, if_neg (show ¬ (valid1 a s v ∧ (0 ≤ n ∧ n ≤ 1000000)) from fun z => hn z.2)]
   exact ⟨by trivial, by trivial⟩
 ·
  rw [decide_eq_false h, if_neg (show ¬ (valid1 a s v ∧ (0 ≤ n ∧ n ≤ 1000000)) from fun z => h z.1)]
  exact ⟨by trivial, by trivial⟩
theorem J3 (m : List Int) (hm : bytes m) (k : Nat) (hk : 2700000 < k) : laws_FnRunnersRun.j3 k m = some true := by
 obtain ⟨k, rfl⟩ : ∃ m, k = m + 1 + 1 := ⟨k - 2, by omega⟩
 obtain ⟨A, S, V, X, d1⟩ := dLaps_ok m hm
 obtain ⟨b, l, n, d2, l2⟩ := dLonely_ok m hm (k + 1) (by omega)
 obtain ⟨a, s, v, t, u, p, d3⟩ := dHandicap_ok m hm
 obtain ⟨d, T, g, d4, l4⟩ := dWinner_ok m hm (k + 1) (by omega)
 obtain ⟨x5, y5, n5, t5, d5, l5⟩ := dNearest_ok m hm (k + 1) (by omega)
 obtain ⟨free, d6, l6⟩ := dText_ok m hm (k + 1) (by omega)
 obtain ⟨z, d7, l7⟩ := dParse_ok m hm (k + 1) (by omega)
 obtain ⟨a1, a2⟩ := lap_both A S V X
 obtain ⟨b1, b2⟩ := plc_both A S V X
 obtain ⟨c1, c2⟩ := lonely_both' b l (by omega) n (k + 1) (by omega)
 obtain ⟨e1, e2⟩ := han_both a s v t u p (k + 1) (by omega)
 have f1 := tol_spec a s v p (k + 1) (by omega)
 have f2 := tol_impl a s v p (k + 1) (by omega)
 obtain ⟨g1, g2⟩ := win_both' d T (by omega) g (k + 1) (by omega)
 obtain ⟨⟨h0, h00⟩, h1, h2⟩ := near_both x5 y5 (by omega) n5 t5 (k + 1) (by omega)
 have qs := laws_qSame_eq (winV d T g).1 (by have := wins_len d g T (by omega); omega) (k + 1) (by have := wins_len d g T (by omega); omega)
 have p1 := spec_ParseRunners_eq z l7 (k + 1) (by omega)
 have p2 := impl_ParseRunners_eq z l7 (k + 1) (by omega)
 have pl := fin1_len (optL iN (sp 44 z.data.toList))
 have back : ∀ L, fin1 (optL iN (sp 44 z.data.toList)) = (L, true) → areRun 1000 L ∧ z = tx (runsTx L) := by
  intro L hL
  obtain ⟨q1, q2⟩ := runs_back _ L hL
  exact ⟨q1, by rw [q2, tx_of]⟩
 generalize fin1 (optL iN (sp 44 z.data.toList)) = r at *
 obtain ⟨L, c⟩ := r
 have qr := qRunners_eq L (by have : L.length ≤ 6 := pl; omega) (k + 1) (by omega)
 obtain ⟨text, e, t1, t2, ht⟩ : ∃ text e, spec_RunnersText.f (k + 1) free = some (text, e) ∧ impl_RunnersText.f (k + 1) free = some (text, e) ∧ (e = true → areRun 1000 free ∧ text = tx (runsTx free)) := by
  by_cases h : areRun 1000 free
  ·
   exact ⟨_, _, spec_RunnersText_yes free h (k + 1) (by omega), impl_RunnersText_yes free h (k + 1) (by omega), fun _ => ⟨h, rfl⟩⟩
  ·
   exact ⟨_, _, spec_RunnersText_no free (by omega) h (k + 1) (by omega), impl_RunnersText_no free h (k + 1), fun z => by cases z⟩
 have hT : TX free text e z L c := ⟨ht, fun y => by subst y; exact back L rfl⟩
 have j := J5 b l (by omega) n a s v t u p d g T (by omega) free text e z L c hT k (by omega)
 have same : (lapV A S V X).2 = (plcV A S V X).2 := by
  unfold lapV plcV
  split <;> rfl
 have j4 : laws_FnRunnersRun.j4 (k + 1) A X (lapV A S V X).1 (lapV A S V X).2 (plcV A S V X).1 b l n (lonV b l n).1 (lonV b l n).2 a p (hanV a s v t u p).1 (hanV a s v t u p).2 (tolV a s v p).1 (tolV a s v p).2.1 (tolV a s v p).2.2 d T g (winV d T g).1 (winV d T g).2 free text e z L c false S V s v t u = some true := by
  simp only [laws_FnRunnersRun.j4, Bool.false_eq_true, if_false]
  by_cases h : valid1 A S V ∧ (0 ≤ X ∧ X ≤ 1000000)
  ·
   obtain ⟨r1, r2, r3, r4⟩ := lap_range h.1 h.2
   have ha := h.1.1
   have v1 : lapV A S V X = (V * X / A, true) := by unfold lapV; rw [if_pos h]
   have v2 : plcV A S V X = ((S + V * X) % A, true) := by unfold plcV; rw [if_pos h]
   rw [v1, v2]
   simp only [if_true]
   rw [if_neg (by omega), w64 (x := V * X) (by omega), Int.tdiv_eq_ediv_of_nonneg r3.1, w64 (x := V * X / A) (by omega), if_pos rfl, w64 (x := S + V * X) (by omega), Int.tmod_eq_emod_of_nonneg (by omega), bne_self_eq_false]
   exact j
  ·
   have v1 : lapV A S V X = (0, false) := by unfold lapV; rw [if_neg h]
   rw [v1]
   simp only [Bool.false_eq_true, if_false]
   exact j
 simp only [laws_FnRunnersRun.j3, d1, a1, a2, b1, b2, d2, c1, c2, d3, e1, e2, f1, f2, d4, g1, g2, d5, h1, h2, d6, t1, t2, d7, p1, p2, qs, qr, Option.bind_some, bne_self_eq_false, beq_self_eq_true, Bool.not_true, Bool.or_false, Bool.or_self, Bool.false_eq_true, if_false, if_true, same]
 rw [same] at j4
 exact j4
/-- the order: each one is not farther than the one ahead of it -/
theorem L0 (a t : Int) (l : List S35) (h : areRun a l) (ht : 0 ≤ t ∧ t ≤ 1000000) (m : List Int) (hm : bytes m) (q : Nat) : ∀ (k i : Nat), i + q = l.length → 2800000 + 2 * q < k →
  laws_FnRunnersRun.l0 k m a l t (orderN l t) (orderN l t) ((orderN l t).length : Int) (i : Int) = some true := by
 have hl6 := h.2.1
 have hol : (orderN l t).length = l.length := by rw [orderN_eq, List.length_map, ordQ_length]
 have hql := ordQ_length l t
 induction q with
 | zero =>
  intro k i hi hk
  obtain ⟨k, rfl⟩ : ∃ m, k = m + 1 := ⟨k - 1, by omega⟩
  simp only [laws_FnRunnersRun.l0]
  rw [if_neg (by omega)]
  exact J3 m hm k (by omega)
 | succ q ih =>
  intro k i hi hk
  obtain ⟨k, rfl⟩ : ∃ m, k = m + 1 + 1 := ⟨k - 2, by omega⟩
  have hlt : i < (ordQ l t).length := by omega
  have e1 : wrap64 ((i : Int) + 1) = ((i + 1 : Nat) : Int) := by rw [w64 (by omega)]; rfl
  have r1 := order_at l t i hlt
  have b1 := ordQ_lt l t i hlt
  have qh := laws_qHas_eq ((orderN l t).take i) (((ordQ l t)[i] : Nat) : Int) (by rw [List.length_take]; omega) (k + 1) (by rw [List.length_take]; omega)
  rw [decide_eq_false (order_new l t i hlt)] at qh
  have next := ih k (i + 1) (by omega) (by omega)
  simp only [laws_FnRunnersRun.l0]
  rw [if_pos (by omega), if_pos (by omega), if_pos (by omega), r1, if_neg (by omega), if_neg (by omega), if_pos (by omega), Int.toNat_natCast, qh]
  simp only [Option.bind_some, laws_FnRunnersRun.j2, Bool.false_eq_true, if_false]
  by_cases h0 : (i : Int) > 0
  ·
   obtain ⟨j, rfl⟩ : ∃ j, i = j + 1 := ⟨i - 1, by omega⟩
   have e2 : wrap64 (((j + 1 : Nat) : Int) - 1) = (j : Int) := by rw [w64 (by omega)]; omega
   have hlt2 : j < (ordQ l t).length := by omega
   have r2 := order_at l t j hlt2
   have b2 := ordQ_lt l t j hlt2
   have pr := ordQ_pair l t j (j + 1) hlt2 hlt (by omega)
   unfold aft at pr
   rw [farN_val a l t h ht _ b1, farN_val a l t h ht _ b2] at pr
   generalize (ordQ l t)[j + 1] = x at *
   generalize (ordQ l t)[j] = y at *
   have ex : rd_T35 l (x : Int) = l[x] := by simp [rd_T35, b1]
   have ey : rd_T35 l (y : Int) = l[y] := by simp [rd_T35, b2]
   have ld := impl_LeadBetween_eq a l[y].f0 l[y].f1 l[x].f0 l[x].f1 t k (by omega)
   rw [if_pos ⟨⟨⟨h.1, h.2.2 l[y] (List.getElem_mem b2)⟩, ⟨h.1, h.2.2 l[x] (List.getElem_mem b1)⟩⟩, ht⟩] at ld
   rw [if_pos h0, e2, if_pos (by omega), if_pos (by omega), r2, if_pos (by omega), if_pos (by omega), if_pos (by omega), if_pos (by omega), ex, ey, ld]
   simp only [Option.bind_some, if_true]
   rw [if_neg (by omega), e1]
   by_cases z : l[y].f0 + l[y].f1 * t - (l[x].f0 + l[x].f1 * t) = 0
   ·
    rw [if_pos z, if_neg (by omega)]
    exact next
   ·
    rw [if_neg z]
    exact next
  ·
   rw [if_neg h0, e1]
   exact next
theorem holds : ∀ (l0 : List Int) (l1 : List Int), l0.length ≤ maxLen → l0.length * 1 ≤ 140737488351232 → (∀ x ∈ l0, (Lit.int .u8 x).wf = true) → l1.length ≤ maxLen → l1.length * 1 ≤ 140737488351232 → (∀ x ∈ l1, (Lit.int .u8 x).wf = true) → ∃ k, laws_FnRunnersRun.f k l0 l1 = some true := by
 intro c m _ _ hc _ _ hm
 obtain ⟨k, hk⟩ : ∃ k : Nat, 2900000 < k := ⟨2900001, by decide⟩
 refine ⟨k + 1, ?_⟩
 unfold laws_FnRunnersRun.f
 obtain ⟨g, eg⟩ : ∃ g, laws_big.f c m = some g := by
  unfold laws_big.f
  split <;> exact ⟨_, rfl⟩
 rw [eg]
 simp only [Option.bind_some]
 by_cases hg : g = true
 ·
  rw [if_pos hg]
 rw [if_neg hg]
 obtain ⟨a, l, t, ed, hl⟩ := dOrder_ok c hc (k + 1) (by omega)
 rw [ed]
 simp only [Option.bind_some]
 by_cases h : areRun a l ∧ (0 ≤ t ∧ t ≤ 1000000)
 ·
  have e1 := impl_OrderOnTrack_yes a l t h.1 h.2
  have e2 := spec_OrderOnTrack_yes a l t h.1 h.2 (k + 1) (by omega)
  have hol : (orderN l t).length = l.length := by rw [orderN_eq, List.length_map, ordQ_length]
  have hl6 := h.1.2.1
  have qs := laws_qSame_eq (orderN l t) (by omega) (k + 1) (by omega)
  have j := L0 a t l h.1 h.2 m hm l.length k 0 (by omega) (by omega)
  simp only [e1, e2, qs, Option.bind_some, bne_self_eq_false, Bool.false_eq_true, if_false, Bool.not_true, laws_FnRunnersRun.j0, if_true]
  rw [if_pos (by rw [hol])]
  exact j
 ·
  have e1 := impl_OrderOnTrack_no a l t h
  have e2 := spec_OrderOnTrack_no a l t (by omega) h (k + 1) (by omega)
  have qs := laws_qSame_eq [] (by simp) (k + 1) (by simp)
  have j := J3 m hm k (by omega)
  simp only [e1, e2, qs, Option.bind_some, bne_self_eq_false, Bool.false_eq_true, if_false, Bool.not_true, laws_FnRunnersRun.j0]
  exact j
end Go.Proofs.YtfkieckkmcibbaaGreatDoor.QFnRunnersRun
