/- The law FnExactParseRunners in plain Lean, over the printed functions: it returns true for every input (no condition). -/
import Derived.Test.YtiokkigigcjnpaaDoorPFnExactParseRunnersx5
import Derived.OpenShut
namespace Go.Proofs.YtiokkigigcjnpaaDoor.QFnExactParseRunners
open Go.RowKit Go.ChangeShapes Go.WideShapes Go.Proofs.YtiokkigigcjnpaaDoor.PFnExactParseRunners Go.Proofs.YtiokkigigcjnpaaDoorW.PrintWords Go.Proofs.YtiokkigigcjnpaaDoorW.PrintLast Go.Proofs.YtiokkigigcjnpaaDoorW.PrintMore
set_option linter.unusedVariables false
set_option linter.unusedSimpArgs false
theorem w64 {x : Int} (h : -9223372036854775808 ≤ x ∧ x ≤ 9223372036854775807) : wrap64 x = x := by unfold wrap64; omega
theorem bm {a b A B : Int} (ha : 0 ≤ a ∧ a ≤ A) (hb : 0 ≤ b ∧ b ≤ B) : 0 ≤ a * b ∧ a * b ≤ A * B :=
  ⟨Int.mul_nonneg ha.1 hb.1, Int.mul_le_mul ha.2 hb.2 hb.1 (Int.le_trans ha.1 ha.2)⟩
theorem gcd_step (a b : Int) (ha : 0 ≤ a) (hb : 0 ≤ b) : Int.gcd b (a.tmod b) = Int.gcd a b := by
  obtain ⟨m, rfl⟩ := Int.eq_ofNat_of_zero_le ha
  obtain ⟨n, rfl⟩ := Int.eq_ofNat_of_zero_le hb
  rw [← Int.ofNat_tmod]
  show Nat.gcd n (m % n) = Nat.gcd m n
  rw [Nat.gcd_comm n, ← Nat.gcd_rec, Nat.gcd_comm]
def lowN (a b : Int) : Int := a / (Int.gcd a b : Int)
def lowD (a b : Int) : Int := b / (Int.gcd a b : Int)
theorem gpos {a b : Int} (hb : 0 < b) : 0 < (Int.gcd a b : Int) := by
  have := Int.gcd_pos_of_ne_zero_right a (show b ≠ 0 by omega)
  omega
theorem gle {a b : Int} (hb : 0 < b) : (Int.gcd a b : Int) ≤ b := Int.le_of_dvd hb (Int.gcd_dvd_right a b)
theorem tdiv_gcd_l (a b : Int) : a.tdiv (Int.gcd a b) = lowN a b := by
  unfold lowN
  exact (Int.tdiv_eq_ediv_of_dvd (Int.gcd_dvd_left a b))
theorem tdiv_gcd_r (a b : Int) : b.tdiv (Int.gcd a b) = lowD a b := by
  unfold lowD
  exact (Int.tdiv_eq_ediv_of_dvd (Int.gcd_dvd_right a b))
theorem low_range {a b M : Int} (hb : 0 < b) (ha : -M ≤ a ∧ a ≤ M) : -M ≤ lowN a b ∧ lowN a b ≤ M := by
  unfold lowN
  have g := gpos (a := a) hb
  have hM : 0 ≤ M := by omega
  have e := Int.ediv_mul_cancel (Int.gcd_dvd_left a b)
  constructor
  · apply Int.le_ediv_of_mul_le g
    have : -M * (Int.gcd a b : Int) ≤ -M * 1 := Int.mul_le_mul_of_nonpos_left (by omega) (by omega)
    omega
  · rcases Int.le_total 0 a with h | h
    · have := Int.ediv_le_self (Int.gcd a b : Int) h
      omega
    · have := Int.ediv_le_ediv g h
      rw [Int.zero_ediv] at this
      omega
theorem lowD_range {a b : Int} (hb : 0 < b) : 1 ≤ lowD a b ∧ lowD a b ≤ b := by
  unfold lowD
  have g := gpos (a := a) hb
  constructor
  · apply Int.le_ediv_of_mul_le g
    have := gle (a := a) hb
    omega
  · exact Int.ediv_le_self _ (by omega)
theorem bms {a b A B : Int} (ha : -A ≤ a ∧ a ≤ A) (hb : 0 ≤ b ∧ b ≤ B) : -(A * B) ≤ a * b ∧ a * b ≤ A * B := by
  have hA : 0 ≤ A := by omega
  rcases Int.le_total 0 a with h | h
  · have := bm ⟨h, ha.2⟩ hb
    have := Int.mul_nonneg hA (Int.le_trans hb.1 hb.2)
    omega
  · have := bm (a := -a) (A := A) ⟨by omega, by omega⟩ hb
    have e : -a * b = -(a * b) := Int.neg_mul a b
    omega
theorem low_scale (a b c : Int) (hc : 0 < c) : lowN (a * c) (b * c) = lowN a b ∧ lowD (a * c) (b * c) = lowD a b := by
  have e : (Int.gcd (a * c) (b * c) : Int) = (Int.gcd a b : Int) * c := by
    rw [Int.gcd_mul_right]
    have : (c.natAbs : Int) = c := by omega
    rw [Int.natCast_mul, this]
  unfold lowN lowD
  rw [e]
  exact ⟨Int.mul_ediv_mul_of_pos_left a _ hc, Int.mul_ediv_mul_of_pos_left b _ hc⟩
theorem w64b {x B : Int} (h : 0 ≤ x ∧ x ≤ B) (hB : B ≤ 9223372036854775807) : wrap64 x = x := w64 ⟨Int.le_trans (by decide) h.1, Int.le_trans h.2 hB⟩
theorem ad {x y A B : Int} (hx : 0 ≤ x ∧ x ≤ A) (hy : 0 ≤ y ∧ y ≤ B) : 0 ≤ x + y ∧ x + y ≤ A + B := ⟨Int.add_nonneg hx.1 hy.1, Int.add_le_add hx.2 hy.2⟩

theorem laws_eqRunnerS_l0 (l : List S50) (hl : l.length ≤ 1000000000) (d : Nat) : ∀ (k i : Nat), i + d = l.length → d < k → laws_eqRunnerS.l0 k l l (i : Int) = some true := by
  induction d with
  | zero =>
    intro k i hi hk
    obtain ⟨k, rfl⟩ : ∃ m, k = m + 1 := ⟨k - 1, by omega⟩
    simp only [laws_eqRunnerS.l0]
    rw [if_neg (by omega)]
  | succ d ih =>
    intro k i hi hk
    obtain ⟨k, rfl⟩ : ∃ m, k = m + 1 := ⟨k - 1, by omega⟩
    have e1 : wrap64 ((i : Int) + 1) = ((i + 1 : Nat) : Int) := by rw [w64 (by omega)]; rfl
    simp only [laws_eqRunnerS.l0, laws_eqRunner.f, if_true, Option.bind_some]
    rw [if_pos (by omega), if_pos (by omega), if_pos (by omega), e1]
    exact ih k (i + 1) (by omega) (by omega)
theorem laws_eqRunnerS_eq (l : List S50) (hl : l.length ≤ 1000000000) (k : Nat) (hk : l.length < k) : laws_eqRunnerS.f k l l = some true := by
  unfold laws_eqRunnerS.f
  rw [if_pos rfl]
  exact laws_eqRunnerS_l0 l hl l.length k 0 (by omega) hk

theorem spec_l1In_eq (a b c : Int) : spec_l1In.f a b c = some (decide (b ≤ a ∧ a ≤ c)) := by
  unfold spec_l1In.f
  by_cases h : b ≤ a <;> simp [h]

theorem spec_trLap_eq (a : Int) : spec_trLap.f a = some (decide (2 ≤ a ∧ a ≤ 1000)) := by
  simp only [spec_trLap.f, spec_l1In_eq, Option.bind_some]

/-- a runner of a track -/
def isRun (a s v : Int) : Prop := (0 ≤ s ∧ s ≤ a - 1) ∧ (1 ≤ v ∧ v ≤ 100)
instance (a s v : Int) : Decidable (isRun a s v) := by unfold isRun; infer_instance
theorem spec_trRunner_eq (a s v : Int) : spec_trRunner.f a s v = some (decide ((2 ≤ a ∧ a ≤ 1000) ∧ isRun a s v)) := by
  simp only [spec_trRunner.f, spec_trLap_eq, spec_l1In_eq, Option.bind_some]
  by_cases h1 : 2 ≤ a ∧ a ≤ 1000
  · rw [w64 (x := a - 1) (by omega)]
    by_cases h2 : 0 ≤ s ∧ s ≤ a - 1
    · by_cases h3 : 1 ≤ v ∧ v ≤ 100
      · have : isRun a s v := ⟨h2, h3⟩
        simp [h1, h2, h3, this]
      · have : ¬ isRun a s v := fun z => h3 z.2
        simp [h1, h2, h3, this]
    · have : ¬ isRun a s v := fun z => h2 z.1
      simp [h1, h2, this]
  · simp [h1]

theorem spec_trList_l0 (a : Int) (l : List S50) (hl : l.length ≤ 1000000000) (d : Nat) : ∀ (k i : Nat), i + d = l.length → d < k →
    spec_trList.l0 k a l (l.length : Int) (i : Int) = some (decide (∀ x ∈ l.drop i, (2 ≤ a ∧ a ≤ 1000) ∧ isRun a x.f0 x.f1)) := by
  induction d with
  | zero =>
    intro k i hi' hk
    obtain ⟨k, rfl⟩ : ∃ m, k = m + 1 := ⟨k - 1, by omega⟩
    simp only [spec_trList.l0]
    rw [if_neg (by omega), List.drop_of_length_le (by omega)]
    simp
  | succ d ih =>
    intro k i hi' hk
    obtain ⟨k, rfl⟩ : ∃ m, k = m + 1 := ⟨k - 1, by omega⟩
    have hlt : i < l.length := by omega
    have er : rd_T50 l (i : Int) = l[i] := by simp [rd_T50, hlt]
    simp only [spec_trList.l0]
    rw [if_pos (by omega), if_pos (by omega), if_pos (by omega), er, spec_trRunner_eq, List.drop_eq_getElem_cons hlt]
    simp only [Option.bind_some]
    have e1 : wrap64 ((i : Int) + 1) = ((i + 1 : Nat) : Int) := by rw [w64 (by omega)]; rfl
    rw [e1, ih k (i + 1) (by omega) (by omega)]
    have e2 : (∀ x ∈ l[i] :: l.drop (i + 1), (2 ≤ a ∧ a ≤ 1000) ∧ isRun a x.f0 x.f1) ↔ (((2 ≤ a ∧ a ≤ 1000) ∧ isRun a l[i].f0 l[i].f1) ∧ ∀ x ∈ l.drop (i + 1), (2 ≤ a ∧ a ≤ 1000) ∧ isRun a x.f0 x.f1) := List.forall_mem_cons
    by_cases h : (2 ≤ a ∧ a ≤ 1000) ∧ isRun a l[i].f0 l[i].f1
    · rw [decide_eq_true h, if_pos rfl]
      exact congrArg some (decide_eq_decide.mpr (e2.trans ⟨fun z => z.2, fun z => ⟨h, z⟩⟩).symm)
    · rw [decide_eq_false h, if_neg Bool.false_ne_true]
      exact congrArg some (decide_eq_false (fun z => h (e2.1 z).1)).symm
theorem spec_trList_iff (a : Int) (l : List S50) (hl : l.length ≤ 1000000000) (k : Nat) (hk : l.length < k) : ∃ b, spec_trList.f k a l = some b ∧ (b = true ↔ ((1 ≤ l.length ∧ l.length ≤ 6) ∧ ∀ x ∈ l, (2 ≤ a ∧ a ≤ 1000) ∧ isRun a x.f0 x.f1)) := by
  unfold spec_trList.f
  rw [spec_l1In_eq]
  simp only [Option.bind_some]
  by_cases h : 1 ≤ (l.length : Int) ∧ (l.length : Int) ≤ 6
  · have := spec_trList_l0 a l hl l.length k 0 (by omega) hk
    refine ⟨_, by rw [decide_eq_true h, if_pos rfl]; exact this, ?_⟩
    rw [decide_eq_true_eq, List.drop_zero]
    exact ⟨fun z => ⟨by omega, z⟩, fun z => z.2⟩
  · refine ⟨false, by rw [decide_eq_false h]; rfl, ?_⟩
    constructor
    · intro z
      cases z
    · intro z
      exact absurd (by have := z.1; omega) h

/-- a list of bytes as a text -/
def tx (l : List UInt8) : ByteArray := ⟨l.toArray⟩
theorem tx_size (l : List UInt8) : (tx l).size = l.length := by simp [tx, ByteArray.size]
theorem tx_data (l : List UInt8) : (tx l).data.toList = l := by simp [tx]
theorem tx_append (a b : List UInt8) : tx a ++ tx b = tx (a ++ b) := by
  apply ByteArray.ext
  simp [tx, ByteArray.data_append]
theorem tx_of (s : ByteArray) : tx s.data.toList = s := by
  apply ByteArray.ext
  simp [tx]
theorem tx_inj {a b : List UInt8} (h : tx a = tx b) : a = b := by rw [← tx_data a, ← tx_data b, h]
theorem dec_len (n : Nat) : (Go.Lib.decDigits n).length ≤ n + 1 := by
  induction n using Nat.strongRecOn with
  | _ n ih =>
    rw [Go.Lib.decDigits]
    split
    · simp
    · have := ih (n / 10) (by omega)
      simp only [List.length_append, List.length_cons, List.length_nil]
      omega
theorem itoa_nat (n : Nat) : Go.Lib.itoa (n : Int) = Go.Lib.decDigits n := by
  unfold Go.Lib.itoa
  rw [if_neg (by omega), Int.toNat_natCast]
theorem itoa_len (x : Int) (h : 0 ≤ x) : ((Go.Lib.itoa x).length : Int) ≤ x + 1 := by
  obtain ⟨n, rfl⟩ := Int.eq_ofNat_of_zero_le h
  rw [itoa_nat]
  have := dec_len n
  omega
theorem digit_text (d : Nat) (h : d < 10) : strOfNums [wrap64 (48 + (d : Int)) % 256] = tx [UInt8.ofNat (48 + d)] := by
  rw [w64 (by omega), Int.emod_eq_of_lt (by omega) (by omega)]
  have : (48 + (d : Int)).toNat = 48 + d := by omega
  unfold strOfNums tx
  rw [List.map_cons, List.map_nil, this]
theorem spec_l1Num_nat (n : Nat) : ∀ k : Nat, n ≤ 1000000 → n < k → spec_l1Num.f k (n : Int) = some (tx (Go.Lib.decDigits n)) := by
  induction n using Nat.strongRecOn with
  | _ n ih =>
    intro k hn hk
    obtain ⟨k, rfl⟩ : ∃ m, k = m + 1 := ⟨k - 1, by omega⟩
    rw [Go.Lib.decDigits]
    simp only [spec_l1Num.f]
    by_cases h : n < 10
    · rw [if_pos (by omega), dif_pos h, digit_text n h]
    · have e1 : wrap64 (Int.tdiv (n : Int) 10) = ((n / 10 : Nat) : Int) := by
        rw [Int.tdiv_eq_ediv_of_nonneg (by omega), w64 (by omega)]
        rfl
      have e2 : Int.tmod (n : Int) 10 = ((n % 10 : Nat) : Int) := by
        rw [Int.tmod_eq_emod_of_nonneg (by omega)]
        rfl
      have hl := dec_len (n / 10)
      rw [if_neg (by omega), dif_neg h, e1, ih (n / 10) (by omega) k (by omega) (by omega), e2]
      simp only [Option.bind_some]
      rw [digit_text (n % 10) (by omega), if_pos (by rw [tx_size, tx_size]; simp only [List.length_cons, List.length_nil]; omega), tx_append]
theorem spec_l1Num_eq (x : Int) (h : 0 ≤ x ∧ x ≤ 1000000) (k : Nat) (hk : 1000000 < k) : spec_l1Num.f k x = some (tx (Go.Lib.itoa x)) := by
  obtain ⟨n, rfl⟩ := Int.eq_ofNat_of_zero_le h.1
  rw [itoa_nat]
  exact spec_l1Num_nat n k (by omega) (by omega)

theorem hd_app (l r : List UInt8) (h : l ≠ []) : (l ++ r).head? = l.head? := by
  cases l with
  | nil => exact absurd rfl h
  | cons a l => rfl
theorem snoc_ind {P : List UInt8 → Prop} (h0 : P []) (h1 : ∀ l c, P l → P (l ++ [c])) : ∀ l, P l := by
  have key : ∀ l : List UInt8, P l.reverse := by
    intro l
    induction l with
    | nil => exact h0
    | cons c l ih =>
      rw [List.reverse_cons]
      exact h1 _ _ ih
  intro l
  have := key l.reverse
  rwa [List.reverse_reverse] at this
/-- a text cut at a byte -/
def sp (b : UInt8) : List UInt8 → List (List UInt8)
  | [] => [[]]
  | c :: r => if c = b then [] :: sp b r else match sp b r with
    | [] => [[c]]
    | x :: xs => (c :: x) :: xs
def spA (b : UInt8) (acc : List UInt8) : List UInt8 → List (List UInt8)
  | [] => [acc]
  | c :: r => if c = b then acc :: spA b [] r else spA b (acc ++ [c]) r
theorem sp_ne (b : UInt8) (l : List UInt8) : ∃ x xs, sp b l = x :: xs := by
  cases l with
  | nil => exact ⟨[], [], rfl⟩
  | cons c r =>
    unfold sp
    split
    · exact ⟨[], _, rfl⟩
    · cases sp b r with
      | nil => exact ⟨[c], [], rfl⟩
      | cons x xs => exact ⟨c :: x, xs, rfl⟩
theorem spA_eq (b : UInt8) (l : List UInt8) : ∀ acc x xs, sp b l = x :: xs → spA b acc l = (acc ++ x) :: xs := by
  induction l with
  | nil =>
    intro acc x xs h
    unfold sp at h
    obtain ⟨rfl, rfl⟩ := List.cons.inj h
    simp [spA]
  | cons c r ih =>
    intro acc x xs h
    obtain ⟨y, ys, hy⟩ := sp_ne b r
    unfold sp at h
    unfold spA
    by_cases z : c = b
    · rw [if_pos z] at h ⊢
      obtain ⟨rfl, rfl⟩ := List.cons.inj h
      rw [ih [] y ys hy, hy, List.append_nil, List.nil_append]
    · rw [if_neg z, hy] at h
      rw [if_neg z]
      obtain ⟨rfl, rfl⟩ := List.cons.inj h
      rw [ih (acc ++ [c]) y ys hy, List.append_assoc]
      rfl
theorem spA_nil (b : UInt8) (l : List UInt8) : spA b [] l = sp b l := by
  obtain ⟨x, xs, h⟩ := sp_ne b l
  rw [spA_eq b l [] x xs h, h, List.nil_append]
/-- the pieces, joined again, are the text -/
theorem join_sp (b : UInt8) (l : List UInt8) : Go.Lib.join (sp b l) [b] = l := by
  induction l with
  | nil => rfl
  | cons c r ih =>
    obtain ⟨x, xs, h⟩ := sp_ne b r
    unfold sp
    rw [h] at ih ⊢
    rw [Go.Lib.join_cons] at ih
    by_cases z : c = b
    · rw [if_pos z, Go.Lib.join_cons]
      unfold Go.Lib.joinTail at ih ⊢
      rw [List.map_cons, List.flatten_cons, z, List.nil_append]
      show [b] ++ x ++ _ = _
      rw [List.append_assoc, ih]
      rfl
    · rw [if_neg z]
      show Go.Lib.join ((c :: x) :: xs) [b] = _
      rw [Go.Lib.join_cons, List.cons_append, ih]
theorem sp_len (b : UInt8) (l : List UInt8) : (sp b l).length ≤ l.length + 1 := by
  induction l with
  | nil => exact Nat.le_refl _
  | cons c r ih =>
    obtain ⟨x, xs, h⟩ := sp_ne b r
    unfold sp
    rw [h] at ih ⊢
    split <;> simp only [List.length_cons] at * <;> omega
theorem sp_small (b : UInt8) (l : List UInt8) : ∀ x ∈ sp b l, x.length ≤ l.length := by
  induction l with
  | nil => intro x hx; simp [sp] at hx; subst hx; exact Nat.le_refl _
  | cons c r ih =>
    obtain ⟨y, ys, h⟩ := sp_ne b r
    intro x hx
    unfold sp at hx
    rw [h] at ih hx
    by_cases z : c = b
    · rw [if_pos z] at hx
      rcases List.mem_cons.mp hx with rfl | hx
      · simp
      · have := ih x hx
        simp only [List.length_cons]
        omega
    · rw [if_neg z] at hx
      rcases List.mem_cons.mp hx with rfl | hx
      · have := ih y List.mem_cons_self
        simp only [List.length_cons]
        omega
      · have := ih x (List.mem_cons_of_mem _ hx)
        simp only [List.length_cons]
        omega
theorem splitK_sp (b : UInt8) (l : List UInt8) : Go.Lib.splitK [b] 0 (Go.Lib.count l [b]) l = sp b l := by
  induction l with
  | nil =>
    rw [Go.Lib.count_miss (by simp [Go.Lib.index])]
    rfl
  | cons c r ih =>
    obtain ⟨x, xs, h⟩ := sp_ne b r
    by_cases z : c = b
    · subst z
      have hix : Go.Lib.index (c :: r) [c] = 0 := by rw [Go.Lib.index]; simp [List.isPrefixOf]
      rw [Go.Lib.count_cons_eq, Nat.add_comm 1]
      unfold Go.Lib.splitK sp
      rw [hix, if_pos rfl, ← ih]
      rfl
    · have hp : ([b] : List UInt8).isPrefixOf (c :: r) = false := by simp [List.isPrefixOf, Ne.symm z]
      have hix : Go.Lib.index (c :: r) [b] = if Go.Lib.index r [b] == -1 then -1 else Go.Lib.index r [b] + 1 := by rw [Go.Lib.index, hp]; simp
      rw [Go.Lib.count_cons_ne c b r z]
      unfold sp
      rw [if_neg z, ← ih]
      by_cases hm : Go.Lib.index r [b] = -1
      · rw [Go.Lib.count_miss hm]
        rfl
      · have hge := Go.Lib.index_ge r [b]
        obtain ⟨j, hj⟩ : ∃ j : Nat, Go.Lib.index r [b] = j := ⟨(Go.Lib.index r [b]).toNat, by omega⟩
        have hc : Go.Lib.count r [b] = 1 + Go.Lib.count (r.drop (j + 1)) [b] := by
          have := Go.Lib.count_hit (sub := [b]) (by simp) hj
          simpa using this
        rw [hc, Nat.add_comm 1]
        unfold Go.Lib.splitK
        rw [hix, hj]
        have e1 : ¬ (((j : Nat) : Int) == -1) = true := by intro e; have := beq_iff_eq.1 e; omega
        have e2 : ¬ ((((j : Nat) : Int) + 1) == -1) = true := by intro e; have := beq_iff_eq.1 e; omega
        rw [if_neg e1, if_neg e1, if_neg e2]
        have e3 : (((j : Nat) : Int) + 1).toNat = j + 1 := by omega
        rw [e3, Int.toNat_natCast]
        simp
/-- the value of digits -/
def val (l : List UInt8) : Nat := l.foldl (fun n c => 10 * n + (c.toNat - 48)) 0
def isDig (c : UInt8) : Bool := decide (48 ≤ c.toNat ∧ c.toNat ≤ 57)
/-- the number that a text of at most six digits tells, or -1 -/
def num (l : List UInt8) : Int := if (1 ≤ l.length ∧ l.length ≤ 6) ∧ ¬ (l.head? = some 48 ∧ 1 < l.length) ∧ l.all isDig = true then (val l : Int) else -1
theorem val_snoc (l : List UInt8) (c : UInt8) : val (l ++ [c]) = 10 * val l + (c.toNat - 48) := by
  unfold val
  rw [List.foldl_append]
  rfl
theorem dig_of (d : Nat) (h : d < 10) : (UInt8.ofNat (48 + d)).toNat = 48 + d := by
  rw [UInt8.toNat_ofNat']
  omega
theorem dec_val (n : Nat) : val (Go.Lib.decDigits n) = n ∧ (Go.Lib.decDigits n).all isDig = true := by
  induction n using Nat.strongRecOn with
  | _ n ih =>
    rw [Go.Lib.decDigits]
    split
    · rename_i h
      refine ⟨?_, ?_⟩
      · show 10 * 0 + ((UInt8.ofNat (48 + n)).toNat - 48) = n
        rw [dig_of n h]
        omega
      · simp [isDig, dig_of n h]
        omega
    · rename_i h
      obtain ⟨h1, h2⟩ := ih (n / 10) (by omega)
      refine ⟨?_, ?_⟩
      · rw [val_snoc, h1, dig_of (n % 10) (by omega)]
        omega
      · rw [List.all_append, h2]
        simp [isDig, dig_of (n % 10) (by omega)]
        omega
theorem dec_ne (n : Nat) : Go.Lib.decDigits n ≠ [] := by
  rw [Go.Lib.decDigits]
  split <;> simp
theorem dec_head (n : Nat) (hn : 1 ≤ n) : (Go.Lib.decDigits n).head? ≠ some 48 := by
  induction n using Nat.strongRecOn with
  | _ n ih =>
    rw [Go.Lib.decDigits]
    split
    · rename_i h
      intro e
      have e1 : UInt8.ofNat (48 + n) = 48 := Option.some.inj e
      have := congrArg UInt8.toNat e1
      rw [dig_of n h] at this
      have h48 : (48 : UInt8).toNat = 48 := rfl
      omega
    · rename_i h
      rw [hd_app _ _ (dec_ne _)]
      exact ih (n / 10) (by omega) (by omega)
theorem dec_len6 (n : Nat) : ∀ k : Nat, n < 10 ^ k → 1 ≤ k → (Go.Lib.decDigits n).length ≤ k := by
  induction n using Nat.strongRecOn with
  | _ n ih =>
    intro k hk h1
    rw [Go.Lib.decDigits]
    split
    · simp; omega
    · rename_i h
      obtain ⟨k, rfl⟩ : ∃ q, k = q + 1 := ⟨k - 1, by omega⟩
      rw [Nat.pow_succ] at hk
      have hk0 : 1 ≤ k := by
        rcases Nat.eq_zero_or_pos k with z | z
        · subst z; simp at hk; omega
        · exact z
      have := ih (n / 10) (by omega) k (by omega) hk0
      rw [List.length_append, List.length_singleton]
      omega
/-- a number below a million, in decimal, is read as itself -/
theorem num_dec (n : Nat) (hn : n < 1000000) : num (Go.Lib.decDigits n) = n := by
  obtain ⟨h1, h2⟩ := dec_val n
  have h3 := dec_len6 n 6 (by omega) (by omega)
  have h4 : 1 ≤ (Go.Lib.decDigits n).length := List.length_pos_iff.mpr (dec_ne n)
  have h5 : ¬ ((Go.Lib.decDigits n).head? = some 48 ∧ 1 < (Go.Lib.decDigits n).length) := by
    rintro ⟨e1, e2⟩
    rcases Nat.eq_zero_or_pos n with z | z
    · subst z
      rw [Go.Lib.decDigits_one (by omega)] at e2
      simp at e2
    · exact dec_head n z e1
  unfold num
  rw [if_pos ⟨⟨h4, h3⟩, h5, h2⟩, h1]
theorem val_le (l : List UInt8) : ∀ (hd : l.all isDig = true), val l + 1 ≤ 10 ^ l.length := by
  revert l
  refine snoc_ind ?_ ?_
  · intro _
    simp [val]
  · intro l c ih hd
    rw [List.all_append, Bool.and_eq_true] at hd
    have h1 := ih hd.1
    have h2 : 48 ≤ c.toNat ∧ c.toNat ≤ 57 := by simpa [isDig] using hd.2
    rw [val_snoc, List.length_append, List.length_singleton, Nat.pow_succ]
    omega
/-- digits without a superfluous zero are the decimal of their value -/
theorem dec_of_val (l : List UInt8) : l ≠ [] → l.all isDig = true → ¬ (l.head? = some 48 ∧ 1 < l.length) → Go.Lib.decDigits (val l) = l := by
  revert l
  refine snoc_ind ?_ ?_
  · intro h
    exact absurd rfl h
  · intro l c ih _ hd hz
    rw [List.all_append, Bool.and_eq_true] at hd
    have h2 : 48 ≤ c.toNat ∧ c.toNat ≤ 57 := by simpa [isDig] using hd.2
    have hc : UInt8.ofNat (48 + (c.toNat - 48)) = c := by
      rw [show 48 + (c.toNat - 48) = c.toNat by omega]
      exact UInt8.ofNat_toNat
    by_cases hne : l = []
    · subst hne
      rw [List.nil_append]
      have : val [c] = c.toNat - 48 := by show 10 * 0 + (c.toNat - 48) = _; omega
      rw [this, Go.Lib.decDigits_one (by omega), hc]
    · have hp := List.length_pos_iff.mpr hne
      have hh : l.head? = (l ++ [c]).head? := (hd_app _ _ hne).symm
      have ih2 := ih hne hd.1 (fun h => hz ⟨by rw [← hh]; exact h.1, by rw [List.length_append]; have := h.2; omega⟩)
      have hv : 1 ≤ val l := by
        rcases Nat.eq_zero_or_pos (val l) with z | z
        · rw [z, Go.Lib.decDigits_one (by omega)] at ih2
          exfalso
          refine hz ⟨?_, by rw [List.length_append, List.length_singleton]; omega⟩
          rw [← hh, ← ih2]
          rfl
        · exact z
      rw [val_snoc, Go.Lib.decDigits, dif_neg (by omega)]
      have e1 : (10 * val l + (c.toNat - 48)) / 10 = val l := by omega
      have e2 : (10 * val l + (c.toNat - 48)) % 10 = c.toNat - 48 := by omega
      rw [e1, e2, ih2, hc]
theorem num_yes (l : List UInt8) (h : 0 ≤ num l) : Go.Lib.itoa (num l) = l ∧ num l < 1000000 := by
  unfold num at h ⊢
  by_cases c : (1 ≤ l.length ∧ l.length ≤ 6) ∧ ¬ (l.head? = some 48 ∧ 1 < l.length) ∧ l.all isDig = true
  · rw [if_pos c]
    have h1 := val_le l c.2.2
    have h2 : (10 : Nat) ^ l.length ≤ 10 ^ 6 := Nat.pow_le_pow_right (by omega) c.1.2
    rw [itoa_nat]
    exact ⟨dec_of_val l (fun e => by rw [e] at c; simp at c) c.2.2 c.2.1, by omega⟩
  · rw [if_neg c] at h
    omega
theorem parse_dec (l : List UInt8) (hd : l.all isDig = true) : ∀ acc : Nat, (acc + 1) * 10 ^ l.length ≤ 1000000000000 → Go.Lib.parseUint10 acc l = .ok (l.foldl (fun n c => 10 * n + (c.toNat - 48)) acc) := by
  induction l with
  | nil => intro acc _; rfl
  | cons c r ih =>
    intro acc ha
    rw [List.all_cons, Bool.and_eq_true] at hd
    have h2 : 48 ≤ c.toNat ∧ c.toNat ≤ 57 := by simpa [isDig] using hd.1
    rw [List.length_cons, Nat.pow_succ] at ha
    have hp : 1 ≤ 10 ^ r.length := Nat.one_le_pow _ _ (by omega)
    have hm : (acc + 1) * 10 * 1 ≤ (acc + 1) * 10 * 10 ^ r.length := Nat.mul_le_mul_left _ hp
    have ha2 : (acc + 1) * 10 * 10 ^ r.length ≤ 1000000000000 := by rw [Nat.mul_assoc, Nat.mul_comm 10]; exact ha
    have hs : (acc * 10 + (c.toNat - 48) + 1) * 10 ^ r.length ≤ (acc + 1) * 10 * 10 ^ r.length := Nat.mul_le_mul_right _ (by omega)
    unfold Go.Lib.parseUint10
    rw [if_pos h2, if_neg (by omega), if_neg (by omega), ih hd.2 _ (by omega), List.foldl_cons, Nat.mul_comm acc 10]
theorem atoi_dec (n : Nat) (hn : n < 1000000) : Go.Lib.atoiAll (Go.Lib.decDigits n) = .ok (n : Int) := by
  obtain ⟨h1, h2⟩ := dec_val n
  have h3 := dec_len6 n 6 (by omega) (by omega)
  obtain ⟨c, r, hcr⟩ : ∃ c r, Go.Lib.decDigits n = c :: r := by
    cases h : Go.Lib.decDigits n with
    | nil => exact absurd h (dec_ne n)
    | cons c r => exact ⟨c, r, rfl⟩
  have hp := parse_dec (Go.Lib.decDigits n) h2 0 (by
    have : (10 : Nat) ^ (Go.Lib.decDigits n).length ≤ 10 ^ 6 := Nat.pow_le_pow_right (by omega) h3
    omega)
  have hv : Go.Lib.parseUint10 0 (Go.Lib.decDigits n) = .ok n := by rw [hp]; exact congrArg _ h1
  rw [hcr] at hv h2 ⊢
  rw [List.all_cons, Bool.and_eq_true] at h2
  have hc : 48 ≤ c.toNat ∧ c.toNat ≤ 57 := by simpa [isDig] using h2.1
  unfold Go.Lib.atoiAll
  simp only
  rw [if_neg (by omega)]
  unfold Go.Lib.parseMag
  rw [if_neg (by simp), hv]
  simp only
  rw [if_neg (by omega), if_neg (by omega), if_neg (by omega)]
theorem readN_num (s : ByteArray) (h : 0 ≤ num s.data.toList) : readN s = (num s.data.toList, true) := by
  obtain ⟨h1, h2⟩ := num_yes _ h
  obtain ⟨n, hn⟩ := Int.eq_ofNat_of_zero_le h
  rw [hn] at h1 h2 ⊢
  have ha := atoi_dec n (by omega)
  rw [← itoa_nat, h1] at ha
  unfold readN
  rw [ha]
  simp only
  rw [if_pos h1]
theorem num_readN (s : ByteArray) (v : Int) (h : readN s = (v, true)) (hv : 0 ≤ v ∧ v < 1000000) : num s.data.toList = v := by
  obtain ⟨n, rfl⟩ := Int.eq_ofNat_of_zero_le hv.1
  have key : Go.Lib.itoa (n : Int) = s.data.toList := by
    unfold readN at h
    split at h
    · rename_i w _
      split at h
      · rename_i z
        obtain ⟨rfl, _⟩ := Prod.mk.inj h
        exact z
      · cases (Prod.mk.inj h).2
    · cases (Prod.mk.inj h).2
  rw [← key, itoa_nat]
  exact num_dec n (by omega)
theorem ext_tx (s : ByteArray) (i j : Nat) : s.extract i j = tx ((s.data.toList.drop i).take (j - i)) := by
  apply ByteArray.ext
  rw [ByteArray.data_extract]
  apply Array.toList_inj.mp
  rw [Array.toList_extract, tx_data, List.extract_eq_take_drop]
theorem bt_byte (s : ByteArray) (i : Nat) (h : i < s.data.toList.length) : bt s (i : Int) = (s.data.toList[i].toNat : Int) := by
  have hz : s.data.toList.length = s.size := by rw [Array.length_toList]; rfl
  unfold bt
  rw [dif_pos (by omega)]
  rfl
theorem l1Split_l0 (s : ByteArray) (b : UInt8) (hs : s.data.toList.length ≤ 1048576) (q : Nat) : ∀ (k i f : Nat) (out : List ByteArray), i + q = s.data.toList.length → f ≤ i → out.length ≤ i → q < k →
    spec_l1Split.l0 k s (b.toNat : Int) out (f : Int) (i : Int) = some (out ++ (spA b ((s.data.toList.drop f).take (i - f)) (s.data.toList.drop i)).map tx) := by
  have hz : s.size = s.data.toList.length := by rw [Array.length_toList]; rfl
  induction q with
  | zero =>
    intro k i f out hi hf ho hk
    obtain ⟨k, rfl⟩ : ∃ m, k = m + 1 := ⟨k - 1, by omega⟩
    simp only [spec_l1Split.l0]
    rw [hz, if_neg (by omega), if_pos (by omega), if_pos (by omega), if_pos (by omega), ext_tx, List.drop_of_length_le (show s.data.toList.length ≤ i by omega)]
    have e : i = s.data.toList.length := by omega
    rw [e]
    rfl
  | succ q ih =>
    intro k i f out hi hf ho hk
    obtain ⟨k, rfl⟩ : ∃ m, k = m + 1 := ⟨k - 1, by omega⟩
    have hlt : i < s.data.toList.length := by omega
    have e1 : wrap64 ((i : Int) + 1) = ((i + 1 : Nat) : Int) := by rw [w64 (by omega)]; rfl
    simp only [spec_l1Split.l0]
    rw [hz, if_pos (by omega), if_pos (by omega), bt_byte s i hlt, e1, List.drop_eq_getElem_cons hlt]
    unfold spA
    by_cases z : s.data.toList[i] = b
    · rw [if_pos z, z, if_pos rfl, if_pos (by omega), if_pos (by omega), if_pos (by omega), if_pos (by omega), ext_tx, ih k (i + 1) (i + 1) _ (by omega) (Nat.le_refl _) (by rw [List.length_append, List.length_singleton]; omega) (by omega)]
      rw [Nat.sub_self, List.take_zero, List.map_cons, List.append_assoc]
      rfl
    · have z2 : ¬ ((s.data.toList[i].toNat : Int) = (b.toNat : Int)) := by
        intro e
        exact z (UInt8.toNat_inj.mp (by omega))
      rw [if_neg z, if_neg z2, ih k (i + 1) f out (by omega) (by omega) (by omega) (by omega)]
      have e2 : (s.data.toList.drop f).take (i + 1 - f) = (s.data.toList.drop f).take (i - f) ++ [s.data.toList[i]] := by
        rw [show i + 1 - f = (i - f) + 1 by omega, List.take_add_one, List.getElem?_drop, show f + (i - f) = i by omega, List.getElem?_eq_getElem hlt]
        rfl
      rw [e2]
theorem spec_l1Split_eq (s : ByteArray) (b : UInt8) (hs : s.data.toList.length ≤ 1048576) (k : Nat) (hk : s.data.toList.length < k) : spec_l1Split.f k s (b.toNat : Int) = some ((sp b s.data.toList).map tx) := by
  have := l1Split_l0 s b hs s.data.toList.length k 0 0 [] (by omega) (Nat.le_refl _) (Nat.le_refl _) hk
  unfold spec_l1Split.f
  rw [List.nil_append, Nat.sub_self, List.take_zero, List.drop_zero, spA_nil] at this
  exact this

theorem l1Read_l0 (s : ByteArray) (hs : s.data.toList.length ≤ 6) (q : Nat) : ∀ (k i : Nat), i + q = s.data.toList.length → q < k → (s.data.toList.take i).all isDig = true →
    spec_l1Read.l0 k s (val (s.data.toList.take i) : Int) (i : Int) = some (if s.data.toList.all isDig = true then (val s.data.toList : Int) else -1) := by
  have hz : s.size = s.data.toList.length := by rw [Array.length_toList]; rfl
  induction q with
  | zero =>
    intro k i hi hk hd
    obtain ⟨k, rfl⟩ : ∃ m, k = m + 1 := ⟨k - 1, by omega⟩
    rw [List.take_of_length_le (by omega)] at hd ⊢
    simp only [spec_l1Read.l0]
    rw [hz, if_neg (by omega), if_pos hd]
  | succ q ih =>
    intro k i hi hk hd
    obtain ⟨k, rfl⟩ : ∃ m, k = m + 1 := ⟨k - 1, by omega⟩
    have hlt : i < s.data.toList.length := by omega
    have e1 : wrap64 ((i : Int) + 1) = ((i + 1 : Nat) : Int) := by rw [w64 (by omega)]; rfl
    have et : s.data.toList.take (i + 1) = s.data.toList.take i ++ [s.data.toList[i]] := by rw [List.take_add_one, List.getElem?_eq_getElem hlt]; rfl
    simp only [spec_l1Read.l0]
    rw [hz, if_pos (by omega), if_pos (by omega), bt_byte s i hlt, e1]
    by_cases z : isDig s.data.toList[i] = true
    · have z2 : 48 ≤ s.data.toList[i].toNat ∧ s.data.toList[i].toNat ≤ 57 := by simpa [isDig] using z
      have hv := val_le _ hd
      have hp : (10 : Nat) ^ (s.data.toList.take i).length ≤ 10 ^ 5 := Nat.pow_le_pow_right (by omega) (by rw [List.length_take]; omega)
      have next := ih k (i + 1) (by omega) (by omega) (by rw [et, List.all_append, hd, List.all_cons, z]; rfl)
      rw [et, val_snoc] at next
      generalize val (s.data.toList.take i) = v at *
      generalize s.data.toList[i].toNat = c at *
      have e2 : wrap64 (wrap64 (10 * (v : Int)) + ((c : Int) - 48) % 256) = ((10 * v + (c - 48) : Nat) : Int) := by
        rw [w64 (x := 10 * (v : Int)) (by omega), w64 (by omega)]
        omega
      rw [if_neg (by omega), if_neg (by omega), e2]
      exact next
    · have z3 : ¬ s.data.toList.all isDig = true := by
        intro e
        exact z (List.all_eq_true.mp e _ (List.getElem_mem hlt))
      have z2 : ¬ (48 ≤ s.data.toList[i].toNat ∧ s.data.toList[i].toNat ≤ 57) := by
        intro e
        exact z (by simpa [isDig] using e)
      rw [if_neg z3]
      by_cases y : (s.data.toList[i].toNat : Int) < 48
      · rw [if_pos y]
      · rw [if_neg y, if_pos (by omega)]
theorem spec_l1Read_eq (s : ByteArray) (k : Nat) (hk : 7 < k) : spec_l1Read.f k s = some (num s.data.toList) := by
  have hz : s.size = s.data.toList.length := by rw [Array.length_toList]; rfl
  obtain ⟨k, rfl⟩ : ∃ m, k = m + 1 := ⟨k - 1, by omega⟩
  unfold spec_l1Read.f num
  rw [spec_l1In_eq]
  simp only [Option.bind_some]
  rw [hz]
  by_cases h : 1 ≤ (s.data.toList.length : Int) ∧ (s.data.toList.length : Int) ≤ 6
  · rw [decide_eq_true h, if_pos rfl, if_pos (by omega)]
    have e0 : bt s 0 = (s.data.toList[0].toNat : Int) := bt_byte s 0 (by omega)
    have loop := l1Read_l0 s (by omega) s.data.toList.length k 0 (by omega) (by omega) (by rw [List.take_zero]; rfl)
    have loop2 : spec_l1Read.l0 k s 0 0 = some (if s.data.toList.all isDig = true then (val s.data.toList : Int) else -1) := loop
    have hh : s.data.toList.head? = some s.data.toList[0] := by rw [List.head?_eq_getElem?, List.getElem?_eq_getElem]
    rw [e0, hh]
    by_cases z : s.data.toList[0] = 48
    · rw [z, if_pos (show (((48 : UInt8).toNat : Nat) : Int) = 48 from rfl)]
      simp only [spec_l1Read.j0]
      by_cases y : 1 < s.data.toList.length
      · rw [if_pos (decide_eq_true (by omega)), if_neg (fun e => e.2.1 ⟨trivial, y⟩)]
      · rw [decide_eq_false (by omega), if_neg Bool.false_ne_true, loop2]
        by_cases x : s.data.toList.all isDig = true
        · rw [if_pos x, if_pos ⟨by omega, fun e => y e.2, x⟩]
        · rw [if_neg x, if_neg (fun e => x e.2.2)]
    · have z2 : ¬ (s.data.toList[0].toNat : Int) = 48 := by
        intro e
        exact z (UInt8.toNat_inj.mp (by have : (48 : UInt8).toNat = 48 := rfl; omega))
      rw [if_neg z2]
      simp only [spec_l1Read.j0]
      rw [if_neg Bool.false_ne_true, loop2]
      by_cases x : s.data.toList.all isDig = true
      · rw [if_pos x, if_pos ⟨by omega, fun e => z (Option.some.inj e.1), x⟩]
      · rw [if_neg x, if_neg (fun e => x e.2.2)]
  · rw [decide_eq_false h, if_neg Bool.false_ne_true, if_neg (fun e => h (by have := e.1; omega))]
    simp only [spec_l1Read.j0, if_true]

theorem impl_within_eq (a b c : Int) : impl_within.f a b c = some (decide (b ≤ a ∧ a ≤ c)) := by
  unfold impl_within.f
  by_cases h : b ≤ a <;> simp [h]

theorem impl_isRunner_eq (a s v : Int) (h1 : 2 ≤ a ∧ a ≤ 1000) : impl_isRunner.f a s v = some (decide (isRun a s v)) := by
  simp only [impl_isRunner.f, impl_within_eq, Option.bind_some]
  rw [w64 (x := a - 1) (by omega)]
  by_cases h2 : 0 ≤ s ∧ s ≤ a - 1
  · by_cases h3 : 1 ≤ v ∧ v ≤ 100
    · have : isRun a s v := ⟨h2, h3⟩
      simp [h2, h3, this]
    · have : ¬ isRun a s v := fun z => h3 z.2
      simp [h2, h3, this]
  · have : ¬ isRun a s v := fun z => h2 z.1
    simp [h2, this]

theorem noRun_eq (a : Int) (x : S50) (h1 : 2 ≤ a ∧ a ≤ 1000) : noRun a x = !(decide (isRun a x.f0 x.f1)) := by
  unfold noRun
  rw [impl_isRunner_eq a x.f0 x.f1 h1]
  rfl
/-- runners of a track -/
def areRun (a : Int) (l : List S50) : Prop := (2 ≤ a ∧ a ≤ 1000) ∧ (1 ≤ l.length ∧ l.length ≤ 6) ∧ ∀ x ∈ l, isRun a x.f0 x.f1
instance (a : Int) (l : List S50) : Decidable (areRun a l) := by unfold areRun; infer_instance
theorem impl_AreRunners_eq (a : Int) (l : List S50) : impl_AreRunners.f a l = some (decide (areRun a l)) := by
  unfold impl_AreRunners.f
  rw [impl_within_eq, impl_within_eq]
  simp only [Option.bind_some]
  by_cases h1 : 2 ≤ a ∧ a ≤ 1000
  · by_cases h2 : 1 ≤ (l.length : Int) ∧ (l.length : Int) ≤ 6
    · simp only [h1, h2, and_self, decide_true, if_true, Option.some.injEq]
      by_cases h3 : ∀ x ∈ l, isRun a x.f0 x.f1
      · have z : areRun a l := ⟨h1, by omega, h3⟩
        rw [decide_eq_true z, Bool.not_eq_true', List.any_eq_false]
        intro x hx
        rw [noRun_eq a x h1]
        simp [h3 x hx]
      · have z : ¬ areRun a l := fun y => h3 y.2.2
        rw [decide_eq_false z, Bool.not_eq_false', List.any_eq_true]
        have ⟨x, hx⟩ := Classical.not_forall.mp h3
        have ⟨hm, hn⟩ := Classical.not_imp.mp hx
        exact ⟨x, hm, by rw [noRun_eq a x h1]; simp [hn]⟩
    · have z : ¬ areRun a l := fun y => h2 (by have := y.2.1; omega)
      simp only [h1, h2, and_self, decide_true, decide_false, if_true, Bool.false_eq_true, if_false, decide_eq_false z]
  · have z : ¬ areRun a l := fun y => h1 y.1
    simp only [h1, decide_false, Bool.false_eq_true, if_false, decide_eq_false z]

/-- what reading numbers off a text's pieces tells -/
def okN (p : List UInt8) : Bool := (readN (tx p)).2
def valN (p : List UInt8) : Int := (readN (tx p)).1
def readNs (b : UInt8) (l : List UInt8) : List Int × Bool := if (sp b l).all okN = true then ((sp b l).map valN, true) else ([], false)
theorem strings_Split_eq (s : ByteArray) (b : UInt8) (hs : s.data.toList.length < 4294967281) : strings_Split.f s (⟨#[b]⟩ : ByteArray) = some ((sp b s.data.toList).map tx) := by
  have hz : s.size = s.data.toList.length := by rw [Array.length_toList]; rfl
  have e := Go.Lib.splitB_data (⟨#[b]⟩ : ByteArray) 0 (Go.Lib.countB s (⟨#[b]⟩ : ByteArray)) s
  have e2 : Go.Lib.splitK (⟨#[b]⟩ : ByteArray).data.toList 0 (Go.Lib.countB s (⟨#[b]⟩ : ByteArray)) s.data.toList = sp b s.data.toList := splitK_sp b s.data.toList
  rw [e2] at e
  unfold strings_Split.f
  rw [if_pos ⟨by omega, Nat.le_refl _⟩, ← e, List.map_map]
  congr 1
  conv => lhs; rw [← List.map_id (Go.Lib.splitB _ _ _ _)]
  exact List.map_congr_left fun x _ => (tx_of x).symm
theorem readNumbers_l0 (ps : List (List UInt8)) (hl : ps.length ≤ 17592186044415) (hp : ∀ p ∈ ps, p.length ≤ 281474976710656) (q : Nat) : ∀ (k i : Nat), i + q = ps.length → q < k →
    impl_readNumbers.l0 k ((ps.take i).map valN) (ps.map tx) ((ps.map tx).length : Int) (i : Int) = some (if (ps.drop i).all okN = true then (ps.map valN, true) else ([], false)) := by
  induction q with
  | zero =>
    intro k i hi hk
    obtain ⟨k, rfl⟩ : ∃ m, k = m + 1 := ⟨k - 1, by omega⟩
    simp only [impl_readNumbers.l0]
    rw [List.length_map, if_neg (by omega), List.take_of_length_le (by omega), List.drop_of_length_le (by omega)]
    rfl
  | succ q ih =>
    intro k i hi hk
    obtain ⟨k, rfl⟩ : ∃ m, k = m + 1 := ⟨k - 1, by omega⟩
    have hlt : i < ps.length := by omega
    have e1 : wrap64 ((i : Int) + 1) = ((i + 1 : Nat) : Int) := by rw [w64 (by omega)]; rfl
    have er : rdOf ByteArray.empty (ps.map tx) (i : Int) = tx ps[i] := by simp [rdOf, hlt]
    have hsz : (tx ps[i]).size ≤ 281474976710656 := by rw [tx_size]; exact hp _ (List.getElem_mem hlt)
    have next := ih k (i + 1) (by omega) (by omega)
    have et : ps.take (i + 1) = ps.take i ++ [ps[i]] := by rw [List.take_add_one, List.getElem?_eq_getElem hlt]; rfl
    rw [et, List.map_append, List.length_map] at next
    simp only [impl_readNumbers.l0, impl_readNumber.f]
    rw [List.length_map, if_pos (by omega), if_pos (by omega), if_pos (by omega), er, if_pos hsz, List.drop_eq_getElem_cons hlt, List.all_cons]
    simp only [Option.bind_some]
    by_cases z : okN ps[i] = true
    · have z2 : (readN (tx ps[i])).2 = true := z
      rw [if_pos z2, if_pos (by rw [List.length_map, List.length_take]; omega), e1, z, Bool.true_and]
      exact next
    · have z2 : ¬ (readN (tx ps[i])).2 = true := z
      rw [if_neg z2, if_neg (by intro e; exact z (Bool.and_eq_true _ _ |>.mp e).1)]
theorem impl_readNumbers_eq (s : ByteArray) (b : UInt8) (hs : s.data.toList.length ≤ 1048576) (k : Nat) (hk : 1048580 < k) : impl_readNumbers.f k s (⟨#[b]⟩ : ByteArray) = some (readNs b s.data.toList) := by
  have hn := sp_len b s.data.toList
  have := readNumbers_l0 (sp b s.data.toList) (by omega) (fun p hp => by have := sp_small b s.data.toList p hp; omega) (sp b s.data.toList).length k 0 (by omega) (by omega)
  unfold impl_readNumbers.f
  rw [strings_Split_eq s b (by omega)]
  exact this
theorem readNs_len (b : UInt8) (l : List UInt8) (h : (readNs b l).2 = true) : (readNs b l).1 = (sp b l).map valN ∧ (sp b l).all okN = true := by
  unfold readNs at h ⊢
  by_cases z : (sp b l).all okN = true
  · rw [if_pos z]
    exact ⟨rfl, z⟩
  · rw [if_neg z] at h
    cases h
/-- a piece told as a number is read as that number -/
theorem ok_of_num (p : List UInt8) (h : 0 ≤ num p) : okN p = true ∧ valN p = num p := by
  have := readN_num (tx p) (by rw [tx_data]; exact h)
  rw [tx_data] at this
  unfold okN valN
  rw [this]
  exact ⟨rfl, rfl⟩
theorem num_of_ok (p : List UInt8) (h : okN p = true) (hv : 0 ≤ valN p ∧ valN p < 1000000) : num p = valN p := by
  have := num_readN (tx p) (valN p) (by unfold okN at h; unfold valN; rw [← h]) hv
  rwa [tx_data] at this
/-- the decimal of a number, as a length -/
theorem piece_len (p : List UInt8) (k : Nat) (hk : 1 ≤ k) (h : 0 ≤ num p ∧ num p < 10 ^ k) : p.length ≤ k := by
  obtain ⟨n, hn⟩ := Int.eq_ofNat_of_zero_le h.1
  obtain ⟨h1, h2⟩ := num_yes p h.1
  rw [hn] at h1 h
  rw [itoa_nat] at h1
  rw [← h1]
  exact dec_len6 n k (by have := h.2; exact_mod_cast this) hk

theorem laws_markRunnerS_l0 (n : Nat) (hl : n ≤ 1000000000) (d : Nat) : ∀ (k i : Nat) (l : List S50), l.length = n → i + d = n → d < k →
    ∃ l', laws_markRunnerS.l0 k l (2 * (i : Int) + 1) (i : Int) = some (2 * (n : Int) + 1, l') := by
  induction d with
  | zero =>
    intro k i l hn hi hk
    obtain ⟨k, rfl⟩ : ∃ m, k = m + 1 := ⟨k - 1, by omega⟩
    obtain rfl : i = n := by omega
    refine ⟨l, ?_⟩
    simp only [laws_markRunnerS.l0]
    rw [if_neg (by omega)]
  | succ d ih =>
    intro k i l hn hi hk
    obtain ⟨k, rfl⟩ : ∃ m, k = m + 1 := ⟨k - 1, by omega⟩
    have e1 : wrap64 ((i : Int) + 1) = ((i + 1 : Nat) : Int) := by rw [w64 (by omega)]; rfl
    have e2 : wrap64 (wrap64 (2 * (i : Int) + 1 + 1) + 1) = 2 * ((i + 1 : Nat) : Int) + 1 := by
      rw [w64 (x := 2 * (i : Int) + 1 + 1) (by omega), w64 (by omega)]
      omega
    simp only [laws_markRunnerS.l0, Option.bind_some]
    rw [if_pos (by omega), if_pos (by omega), e1, e2]
    exact ih k (i + 1) _ (by simp only [List.length_set]; exact hn) (by omega) (by omega)
theorem laws_markRunnerS_eq (l : List S50) (hl : l.length ≤ 1000000000) (k : Nat) (hk : l.length < k) : ∃ l', laws_markRunnerS.f k l 1 = some (2 * (l.length : Int) + 1, l') := by
  unfold laws_markRunnerS.f
  exact laws_markRunnerS_l0 l.length hl l.length k 0 l rfl (by omega) hk

/-- what marking runners leaves -/
def mkRuns (n : Nat) : List S50 := (List.range n).map fun (j : Nat) => ⟨2 * (j : Int) + 1, 2 * (j : Int) + 2⟩
theorem mkRuns_length (n : Nat) : (mkRuns n).length = n := by simp [mkRuns]
theorem set_mid (a : List S50) (b : S50) (r : List S50) (x : S50) (i : Nat) (h : a.length = i) : (a ++ b :: r).set i x = a ++ x :: r := by
  subst h
  rw [List.set_append_right _ _ (Nat.le_refl _), Nat.sub_self, List.set_cons_zero]
theorem markRunnerS_ex_l0 (l : List S50) (hl : l.length ≤ 1000000000) (d : Nat) : ∀ (k i : Nat), i + d = l.length → d < k →
    laws_markRunnerS.l0 k (mkRuns i ++ l.drop i) (2 * (i : Int) + 1) (i : Int) = some (2 * (l.length : Int) + 1, mkRuns l.length) := by
  induction d with
  | zero =>
    intro k i hi hk
    obtain ⟨k, rfl⟩ : ∃ m, k = m + 1 := ⟨k - 1, by omega⟩
    obtain rfl : i = l.length := by omega
    simp only [laws_markRunnerS.l0]
    rw [List.drop_of_length_le (Nat.le_refl _), List.append_nil, mkRuns_length, if_neg (by omega)]
  | succ d ih =>
    intro k i hi hk
    obtain ⟨k, rfl⟩ : ∃ m, k = m + 1 := ⟨k - 1, by omega⟩
    have hlt : i < l.length := by omega
    have hlen : (mkRuns i ++ l.drop i).length = l.length := by
      rw [List.length_append, mkRuns_length, List.length_drop]
      omega
    have e1 : wrap64 ((i : Int) + 1) = ((i + 1 : Nat) : Int) := by rw [w64 (by omega)]; rfl
    have e2 : wrap64 (2 * (i : Int) + 1 + 1) = 2 * (i : Int) + 2 := by rw [w64 (by omega)]; omega
    have e3 : wrap64 (2 * (i : Int) + 2 + 1) = 2 * ((i + 1 : Nat) : Int) + 1 := by rw [w64 (by omega)]; omega
    have es : ∀ x : S50, (mkRuns i ++ l.drop i).set (i : Int).toNat x = mkRuns i ++ x :: l.drop (i + 1) := by
      intro x
      rw [Int.toNat_natCast, List.drop_eq_getElem_cons hlt]
      exact set_mid _ _ _ _ _ (mkRuns_length i)
    have er : ∀ x : S50, rd_T50 (mkRuns i ++ x :: l.drop (i + 1)) (i : Int) = x := by
      intro x
      simp [rd_T50, mkRuns_length]
    have et : mkRuns (i + 1) ++ l.drop (i + 1) = mkRuns i ++ (⟨2 * (i : Int) + 1, 2 * (i : Int) + 2⟩ : S50) :: l.drop (i + 1) := by
      unfold mkRuns
      rw [List.range_succ, List.map_append, List.append_assoc]
      rfl
    have next := ih k (i + 1) (by omega) (by omega)
    rw [et] at next
    simp only [laws_markRunnerS.l0, Option.bind_some]
    rw [hlen, if_pos (by omega), if_pos (by omega), e1, e2, e3, es, er]
    have es2 : (mkRuns i ++ (⟨2 * (i : Int) + 1, (rd_T50 (mkRuns i ++ l.drop i) (i : Int)).f1⟩ : S50) :: l.drop (i + 1)).set (i : Int).toNat ⟨2 * (i : Int) + 1, 2 * (i : Int) + 2⟩ = mkRuns i ++ (⟨2 * (i : Int) + 1, 2 * (i : Int) + 2⟩ : S50) :: l.drop (i + 1) := by
      rw [Int.toNat_natCast]
      exact set_mid _ _ _ _ _ (mkRuns_length i)
    rw [es2]
    exact next
theorem markRunnerS_ex (l : List S50) (hl : l.length ≤ 1000000000) (k : Nat) (hk : l.length < k) : laws_markRunnerS.f k l 1 = some (2 * (l.length : Int) + 1, mkRuns l.length) := by
  unfold laws_markRunnerS.f
  exact markRunnerS_ex_l0 l hl l.length k 0 (by omega) hk
theorem heldRunnerS_l0 (n : Nat) (hl : n ≤ 1000000000) (d : Nat) : ∀ (k i : Nat), i + d = n → d < k → laws_heldRunnerS.l0 k (mkRuns n) (2 * (i : Int) + 1) (i : Int) = some (2 * (n : Int) + 1) := by
  induction d with
  | zero =>
    intro k i hi hk
    obtain ⟨k, rfl⟩ : ∃ m, k = m + 1 := ⟨k - 1, by omega⟩
    obtain rfl : i = n := by omega
    simp only [laws_heldRunnerS.l0]
    rw [mkRuns_length, if_neg (by omega)]
  | succ d ih =>
    intro k i hi hk
    obtain ⟨k, rfl⟩ : ∃ m, k = m + 1 := ⟨k - 1, by omega⟩
    have hlt : i < n := by omega
    have e1 : wrap64 ((i : Int) + 1) = ((i + 1 : Nat) : Int) := by rw [w64 (by omega)]; rfl
    have e2 : wrap64 (2 * (i : Int) + 1 + 1) = 2 * (i : Int) + 2 := by rw [w64 (by omega)]; omega
    have e3 : wrap64 (2 * (i : Int) + 2 + 1) = 2 * ((i + 1 : Nat) : Int) + 1 := by rw [w64 (by omega)]; omega
    have er : rd_T50 (mkRuns n) (i : Int) = ⟨2 * (i : Int) + 1, 2 * (i : Int) + 2⟩ := by simp [rd_T50, mkRuns, hlt]
    simp only [laws_heldRunnerS.l0]
    rw [mkRuns_length, if_pos (by omega), if_pos (by omega), er, if_pos rfl, e2, if_pos rfl, e1, e3]
    exact ih k (i + 1) (by omega) (by omega)
theorem heldRunnerS_eq (n : Nat) (hl : n ≤ 1000000000) (k : Nat) (hk : n < k) : laws_heldRunnerS.f k (mkRuns n) 1 = some (2 * (n : Int) + 1) := by
  unfold laws_heldRunnerS.f
  exact heldRunnerS_l0 n hl n k 0 (by omega) hk

theorem spec_trList_eq (a : Int) (l : List S50) (hl : l.length ≤ 1000000000) (k : Nat) (hk : l.length < k) : spec_trList.f k a l = some (decide (areRun a l)) := by
  obtain ⟨b, h1, h2⟩ := spec_trList_iff a l hl k hk
  rw [h1]
  congr 1
  rw [Bool.eq_iff_iff, decide_eq_true_eq, h2]
  unfold areRun
  constructor
  · rintro ⟨y, z⟩
    have ⟨q, hq⟩ : ∃ q, q ∈ l := List.exists_mem_of_length_pos (by omega)
    exact ⟨(z q hq).1, y, fun q hq => (z q hq).2⟩
  · rintro ⟨x, y, z⟩
    exact ⟨y, fun q hq => ⟨x, z q hq⟩⟩
def runTx (x : S50) : List UInt8 := Go.Lib.itoa x.f0 ++ [62] ++ Go.Lib.itoa x.f1
def runsTx (l : List S50) : List UInt8 := Go.Lib.join (l.map runTx) [44]
theorem join_snoc (x : List UInt8) (r : List (List UInt8)) (y sep : List UInt8) : Go.Lib.join (x :: r ++ [y]) sep = Go.Lib.join (x :: r) sep ++ sep ++ y := by
  rw [List.cons_append, Go.Lib.join_cons, Go.Lib.join_cons]
  unfold Go.Lib.joinTail
  rw [List.map_append, List.flatten_append]
  simp
theorem runTx_len {a : Int} {x : S50} (ha : a ≤ 1000) (h : isRun a x.f0 x.f1) : (runTx x).length ≤ 2000 := by
  unfold isRun at h
  have h1 := itoa_len x.f0 (by omega)
  have h2 := itoa_len x.f1 (by omega)
  unfold runTx
  simp only [List.length_append, List.length_cons, List.length_nil]
  omega
theorem lit62 : (⟨#[62]⟩ : ByteArray) = tx [62] := rfl
theorem lit44 : (⟨#[44]⟩ : ByteArray) = tx [44] := rfl
theorem join_len' (xs : List (List UInt8)) (sep : List UInt8) (M : Nat) (h : ∀ x ∈ xs, x.length ≤ M) : (Go.Lib.join xs sep).length ≤ xs.length * (M + sep.length) := by
  have tail : ∀ ys : List (List UInt8), (∀ x ∈ ys, x.length ≤ M) → (Go.Lib.joinTail sep ys).length ≤ ys.length * (M + sep.length) := by
    intro ys
    induction ys with
    | nil => intro _; simp [Go.Lib.joinTail]
    | cons y r ih =>
      intro hy
      have h1 := hy y List.mem_cons_self
      have h2 := ih (fun x hx => hy x (List.mem_cons_of_mem _ hx))
      unfold Go.Lib.joinTail at *
      rw [List.map_cons, List.flatten_cons, List.length_append, List.length_append, List.length_cons, Nat.succ_mul]
      omega
  cases xs with
  | nil => simp [Go.Lib.join_nil]
  | cons x r =>
    have h1 := h x List.mem_cons_self
    have h2 := tail r (fun y hy => h y (List.mem_cons_of_mem _ hy))
    rw [Go.Lib.join_cons, List.length_append, List.length_cons, Nat.succ_mul]
    omega
theorem runsTx_len {a : Int} {l : List S50} (h : areRun a l) (l' : List S50) (hs : ∀ x ∈ l', x ∈ l) (hl : l'.length ≤ 6) : (runsTx l').length ≤ 13000 := by
  have := join_len' (l'.map runTx) [44] 2000 (by
    intro x hx
    obtain ⟨y, hy, rfl⟩ := List.mem_map.mp hx
    exact runTx_len h.1.2 (h.2.2 y (hs y hy)))
  rw [List.length_map, List.length_singleton] at this
  have h2 : l'.length * (2000 + 1) ≤ 6 * 2001 := Nat.mul_le_mul_right _ hl
  unfold runsTx
  omega
theorem trText_l0 (a : Int) (l : List S50) (h : areRun a l) (q : Nat) : ∀ (k i : Nat), i + q = l.length → 1000000 + q < k →
    spec_trText.l0 k (tx (runsTx (l.take i))) l (l.length : Int) (i : Int) = some (tx (runsTx l)) := by
  have g := h
  obtain ⟨ha, hl, hv⟩ := g
  induction q with
  | zero =>
    intro k i hi hk
    obtain ⟨k, rfl⟩ : ∃ m, k = m + 1 := ⟨k - 1, by omega⟩
    simp only [spec_trText.l0]
    rw [if_neg (by omega), List.take_of_length_le (by omega)]
  | succ q ih =>
    intro k i hi hk
    obtain ⟨k, rfl⟩ : ∃ m, k = m + 1 := ⟨k - 1, by omega⟩
    have hlt : i < l.length := by omega
    have e1 : wrap64 ((i : Int) + 1) = ((i + 1 : Nat) : Int) := by rw [w64 (by omega)]; rfl
    have er : rd_T50 l (i : Int) = l[i] := by simp [rd_T50, hlt]
    have hx := hv l[i] (List.getElem_mem hlt)
    have hy := hx
    unfold isRun at hy
    have n1 := itoa_len l[i].f0 (by omega)
    have n2 := itoa_len l[i].f1 (by omega)
    have acc := runsTx_len h (l.take i) (fun x hx => List.mem_of_mem_take hx) (by rw [List.length_take]; omega)
    have next := ih k (i + 1) (by omega) (by omega)
    simp only [spec_trText.l0]
    rw [if_pos (by omega), if_pos (by omega), if_pos (by omega), er, e1, spec_l1Num_eq l[i].f0 (by omega) k (by omega), spec_l1Num_eq l[i].f1 (by omega) k (by omega)]
    simp only [Option.bind_some, lit62, lit44, tx_append, tx_size, List.length_append, List.length_cons, List.length_nil]
    have et : l.take (i + 1) = l.take i ++ [l[i]] := by rw [List.take_add_one, List.getElem?_eq_getElem hlt]; rfl
    by_cases z : i = 0
    · subst z
      rw [if_neg (by omega), if_pos (by omega), if_pos (by omega), if_pos (by omega)]
      rw [et] at next
      have e0 : runsTx (l.take 0 ++ [l[0]]) = runsTx (l.take 0) ++ (Go.Lib.itoa l[0].f0 ++ ([62] : List UInt8) ++ Go.Lib.itoa l[0].f1) := by
        rw [List.take_zero, List.nil_append]
        unfold runsTx
        rw [List.map_cons, List.map_nil, Go.Lib.join_one, Go.Lib.join_nil]
        rfl
      rw [e0] at next
      exact next
    · rw [if_pos (by omega), if_pos (by omega), if_pos (by omega), if_pos (by omega), if_pos (by omega)]
      rw [et] at next
      have e0 : runsTx (l.take i ++ [l[i]]) = runsTx (l.take i) ++ ([44] : List UInt8) ++ (Go.Lib.itoa l[i].f0 ++ ([62] : List UInt8) ++ Go.Lib.itoa l[i].f1) := by
        obtain ⟨x, r, hxr⟩ : ∃ x r, l.take i = x :: r := by
          cases hc : l.take i with
          | nil =>
            have := congrArg List.length hc
            rw [List.length_take, List.length_nil] at this
            omega
          | cons x r => exact ⟨x, r, rfl⟩
        rw [hxr]
        unfold runsTx
        rw [List.map_append, List.map_cons, List.map_cons, List.map_nil, join_snoc]
        rfl
      rw [e0] at next
      exact next
theorem spec_trText_eq (a : Int) (l : List S50) (h : areRun a l) (k : Nat) (hk : 1000010 < k) : spec_trText.f k l = some (tx (runsTx l)) := by
  have := h.2.1
  have := trText_l0 a l h l.length k 0 (by omega) (by omega)
  unfold spec_trText.f
  exact this
/-- what each piece tells, or nothing as soon as one tells nothing -/
def optL (f : List UInt8 → Option S50) : List (List UInt8) → Option (List S50)
  | [] => some []
  | p :: r => (f p).bind fun x => (optL f r).bind fun xs => some (x :: xs)
def sN (p : List UInt8) : Option S50 := match sp 62 p with
  | [a, b] => some ⟨num a, num b⟩
  | _ => none
def iN (p : List UInt8) : Option S50 := match sp 62 p with
  | [a, b] => if okN a = true ∧ okN b = true then some ⟨valN a, valN b⟩ else none
  | _ => none
theorem sN_two {p a b : List UInt8} (h : sp 62 p = [a, b]) : sN p = some ⟨num a, num b⟩ := by unfold sN; rw [h]
theorem iN_two {p a b : List UInt8} (h : sp 62 p = [a, b]) : iN p = if okN a = true ∧ okN b = true then some ⟨valN a, valN b⟩ else none := by unfold iN; rw [h]
theorem sN_not {p : List UInt8} (h : (sp 62 p).length ≠ 2) : sN p = none := by
  unfold sN
  split
  · rename_i a b e
    rw [e] at h
    exact absurd rfl h
  · rfl
theorem iN_not {p : List UInt8} (h : (sp 62 p).length ≠ 2) : iN p = none := by
  unfold iN
  split
  · rename_i a b e
    rw [e] at h
    exact absurd rfl h
  · rfl
theorem two {α : Type} (l : List α) (h : l.length = 2) : ∃ a b, l = [a, b] := by
  match l, h with
  | [a, b], _ => exact ⟨a, b, rfl⟩
theorem optL_step (f : List UInt8 → Option S50) (p : List UInt8) (r : List (List UInt8)) : optL f (p :: r) = (f p).bind fun x => (optL f r).bind fun xs => some (x :: xs) := rfl
theorem optL_cons {f : List UInt8 → Option S50} {p : List UInt8} {r : List (List UInt8)} {L : List S50} (h : optL f (p :: r) = some L) : ∃ x xs, f p = some x ∧ optL f r = some xs ∧ L = x :: xs := by
  unfold optL at h
  cases hp : f p with
  | none => rw [hp] at h; cases h
  | some x =>
    rw [hp, Option.bind_some] at h
    cases hr : optL f r with
    | none => rw [hr] at h; cases h
    | some xs =>
      rw [hr, Option.bind_some] at h
      exact ⟨x, xs, rfl, rfl, (Option.some.inj h).symm⟩
theorem optL_mk {f : List UInt8 → Option S50} {p : List UInt8} {r : List (List UInt8)} {x : S50} {xs : List S50} (h1 : f p = some x) (h2 : optL f r = some xs) : optL f (p :: r) = some (x :: xs) := by
  unfold optL
  rw [h1, h2]
  rfl
theorem sN_run {p : List UInt8} {x : S50} (h : sN p = some x) (hr : isRun 1000 x.f0 x.f1) : iN p = some x ∧ runTx x = p ∧ p.length ≤ 7 := by
  by_cases h2 : (sp 62 p).length = 2
  · obtain ⟨a, b, hq⟩ := two _ h2
    rw [sN_two hq] at h
    obtain rfl := Option.some.inj h
    unfold isRun at hr
    simp only at hr
    obtain ⟨oa, va⟩ := ok_of_num a (by omega)
    obtain ⟨ob, vb⟩ := ok_of_num b (by omega)
    have ya := num_yes a (by omega)
    have yb := num_yes b (by omega)
    have la := piece_len a 3 (by omega) (by omega)
    have lb := piece_len b 3 (by omega) (by omega)
    have hj := join_sp 62 p
    rw [hq, Go.Lib.join_cons] at hj
    have hj2 : a ++ ([62] ++ b) = p := by
      rw [← hj]
      simp [Go.Lib.joinTail]
    refine ⟨?_, ?_, ?_⟩
    · rw [iN_two hq, if_pos ⟨oa, ob⟩, va, vb]
    · unfold runTx
      rw [ya.1, yb.1, List.append_assoc]
      exact hj2
    · rw [← hj2]
      simp only [List.length_append, List.length_cons, List.length_nil]
      omega
  · rw [sN_not h2] at h
    cases h
theorem iN_run {p : List UInt8} {x : S50} (h : iN p = some x) (hr : isRun 1000 x.f0 x.f1) : sN p = some x := by
  by_cases h2 : (sp 62 p).length = 2
  · obtain ⟨a, b, hq⟩ := two _ h2
    rw [iN_two hq] at h
    by_cases z : okN a = true ∧ okN b = true
    · rw [if_pos z] at h
      obtain rfl := Option.some.inj h
      unfold isRun at hr
      simp only at hr
      rw [sN_two hq, num_of_ok a z.1 (by omega), num_of_ok b z.2 (by omega)]
    · rw [if_neg z] at h
      cases h
  · rw [iN_not h2] at h
    cases h
theorem optL_sN (ps : List (List UInt8)) : ∀ L, optL sN ps = some L → (∀ x ∈ L, isRun 1000 x.f0 x.f1) → optL iN ps = some L ∧ L.map runTx = ps ∧ ∀ p ∈ ps, p.length ≤ 7 := by
  induction ps with
  | nil =>
    intro L h _
    obtain rfl := Option.some.inj h
    exact ⟨rfl, rfl, fun p hp => absurd hp List.not_mem_nil⟩
  | cons p r ih =>
    intro L h hr
    obtain ⟨x, xs, h1, h2, rfl⟩ := optL_cons h
    obtain ⟨a1, a2, a3⟩ := sN_run h1 (hr x List.mem_cons_self)
    obtain ⟨b1, b2, b3⟩ := ih xs h2 fun y hy => hr y (List.mem_cons_of_mem _ hy)
    refine ⟨optL_mk a1 b1, by rw [List.map_cons, a2, b2], fun q hq => ?_⟩
    rcases List.mem_cons.mp hq with rfl | hq
    · exact a3
    · exact b3 q hq
theorem optL_iN (ps : List (List UInt8)) : ∀ L, optL iN ps = some L → (∀ x ∈ L, isRun 1000 x.f0 x.f1) → optL sN ps = some L := by
  induction ps with
  | nil => intro L h _; exact h
  | cons p r ih =>
    intro L h hr
    obtain ⟨x, xs, h1, h2, rfl⟩ := optL_cons h
    exact optL_mk (iN_run h1 (hr x List.mem_cons_self)) (ih xs h2 fun y hy => hr y (List.mem_cons_of_mem _ hy))
def fin1 (o : Option (List S50)) : List S50 × Bool := match o with
  | some L => if areRun 1000 L then (L, true) else ([], false)
  | none => ([], false)
def fin2 (l : List UInt8) (o : Option (List S50)) : List S50 × Bool := match o with
  | some L => if areRun 1000 L ∧ runsTx L = l then (L, true) else ([], false)
  | none => ([], false)
theorem fin_both (l : List UInt8) : fin1 (optL iN (sp 44 l)) = (if l.length > 60 then ([], false) else fin2 l (optL sN (sp 44 l))) := by
  cases hs : optL sN (sp 44 l) with
  | some L =>
    by_cases h : areRun 1000 L
    · obtain ⟨h1, h2, h3⟩ := optL_sN _ L hs h.2.2
      have hj := join_sp 44 l
      have ht : runsTx L = l := by
        unfold runsTx
        rw [h2]
        exact hj
      have hlen := join_len' (sp 44 l) [44] 7 h3
      have hn : (sp 44 l).length = L.length := by rw [← h2, List.length_map]
      rw [hj, hn, List.length_singleton] at hlen
      have := h.2.1
      have hm : L.length * (7 + 1) ≤ 6 * 8 := Nat.mul_le_mul_right _ this.2
      rw [h1, if_neg (by omega)]
      unfold fin1 fin2
      simp only
      rw [if_pos h, if_pos ⟨h, ht⟩]
    · have e : fin2 l (some L) = ([], false) := by
        unfold fin2
        simp only
        rw [if_neg (fun z => h z.1)]
      have e2 : fin1 (optL iN (sp 44 l)) = ([], false) := by
        cases hi : optL iN (sp 44 l) with
        | none => rfl
        | some M =>
          unfold fin1
          simp only
          rw [if_neg]
          intro z
          have := optL_iN _ M hi z.2.2
          rw [hs] at this
          obtain rfl := Option.some.inj this
          exact h z
      rw [e, e2]
      split <;> rfl
  | none =>
    have e2 : fin1 (optL iN (sp 44 l)) = ([], false) := by
      cases hi : optL iN (sp 44 l) with
      | none => rfl
      | some M =>
        unfold fin1
        simp only
        rw [if_neg]
        intro z
        have := optL_iN _ M hi z.2.2
        rw [hs] at this
        cases this
    rw [e2]
    split <;> rfl
theorem fin1_len (o : Option (List S50)) : (fin1 o).1.length ≤ 6 := by
  unfold fin1
  split
  · split
    · rename_i h
      exact h.2.1.2
    · exact Nat.zero_le _
  · exact Nat.zero_le _
theorem spec_ParseRunners_l0 (s : ByteArray) (hs : s.data.toList.length ≤ 60) (ps : List (List UInt8)) (hl : ps.length ≤ 100) (hp : ∀ p ∈ ps, p.length ≤ 60) (q : Nat) : ∀ (k i : Nat) (acc : List S50), i + q = ps.length → acc.length = i → 1048600 + q < k →
    spec_ParseRunners.l0 k s acc (ps.map tx) ((ps.map tx).length : Int) (i : Int) = some (fin2 s.data.toList ((optL sN (ps.drop i)).map fun xs => acc ++ xs)) := by
  induction q with
  | zero =>
    intro k i acc hi ha hk
    obtain ⟨k, rfl⟩ : ∃ m, k = m + 1 := ⟨k - 1, by omega⟩
    simp only [spec_ParseRunners.l0]
    rw [List.length_map, if_neg (by omega), List.drop_of_length_le (by omega), spec_trList_eq 1000 acc (by omega) k (by omega)]
    simp only [Option.bind_some]
    have e : fin2 s.data.toList ((optL sN []).map fun xs => acc ++ xs) = if areRun 1000 acc ∧ runsTx acc = s.data.toList then (acc, true) else ([], false) := by
      show fin2 _ (some (acc ++ [])) = _
      rw [List.append_nil]
      rfl
    rw [e]
    by_cases h : areRun 1000 acc
    · rw [decide_eq_true h, if_pos rfl, spec_trText_eq 1000 acc h k (by omega)]
      simp only [Option.bind_some]
      by_cases z : runsTx acc = s.data.toList
      · have z2 : (tx (runsTx acc)).toList = s.toList := by
          rw [ByteArray.toList_eq, ByteArray.toList_eq, tx_data]
          exact z
        rw [if_pos z2, if_pos ⟨h, z⟩]
      · have z2 : ¬ (tx (runsTx acc)).toList = s.toList := by
          rw [ByteArray.toList_eq, ByteArray.toList_eq, tx_data]
          exact z
        rw [if_neg z2, if_neg (fun y => z y.2)]
    · rw [decide_eq_false h, if_neg Bool.false_ne_true, if_neg (fun y => h y.1)]
  | succ q ih =>
    intro k i acc hi ha hk
    obtain ⟨k, rfl⟩ : ∃ m, k = m + 1 := ⟨k - 1, by omega⟩
    have hlt : i < ps.length := by omega
    have e1 : wrap64 ((i : Int) + 1) = ((i + 1 : Nat) : Int) := by rw [w64 (by omega)]; rfl
    have er : rdOf ByteArray.empty (ps.map tx) (i : Int) = tx ps[i] := by simp [rdOf, hlt]
    have hsz := hp ps[i] (List.getElem_mem hlt)
    have es := spec_l1Split_eq (tx ps[i]) 62 (by rw [tx_data]; omega) k (by rw [tx_data]; omega)
    rw [tx_data] at es
    have e62 : ((62 : UInt8).toNat : Int) = 62 := rfl
    rw [e62] at es
    simp only [spec_ParseRunners.l0]
    rw [List.drop_eq_getElem_cons hlt, List.length_map, if_pos (by omega), if_pos (by omega), if_pos (by omega), er, es]
    simp only [Option.bind_some, List.length_map]
    by_cases h2 : (sp 62 ps[i]).length = 2
    · obtain ⟨a, b, hq⟩ := two _ h2
      rw [hq]
      have r0 : rdOf ByteArray.empty ([a, b].map tx) 0 = tx a := rfl
      have r1 : rdOf ByteArray.empty ([a, b].map tx) 1 = tx b := rfl
      rw [r0, r1, show ((([a, b] : List (List UInt8)).length : Nat) : Int) = 2 from rfl, if_pos rfl, if_pos (by decide), spec_l1Read_eq _ k (by omega), spec_l1Read_eq _ k (by omega), tx_data, tx_data]
      simp only [Option.bind_some]
      rw [if_pos (by decide)]
      have next := ih k (i + 1) (acc ++ [⟨num a, num b⟩]) (by omega) (by rw [List.length_append, List.length_singleton]; omega) (by omega)
      rw [List.length_map] at next
      rw [if_pos (by omega), e1, next]
      rw [optL_step, sN_two hq]
      cases optL sN (ps.drop (i + 1)) with
      | none => rfl
      | some xs => simp
    · rw [if_neg (by omega)]
      rw [optL_step]
      rw [sN_not h2]
      rfl
theorem spec_ParseRunners_eq (s : ByteArray) (hs : s.data.toList.length ≤ 1048576) (k : Nat) (hk : 1049000 < k) : spec_ParseRunners.f k s = some (fin1 (optL iN (sp 44 s.data.toList))) := by
  have hz : s.size = s.data.toList.length := by rw [Array.length_toList]; rfl
  rw [fin_both]
  unfold spec_ParseRunners.f
  rw [hz]
  by_cases h : s.data.toList.length > 60
  · rw [if_pos (by omega), if_pos h]
  · have e1 := spec_l1Split_eq s 44 hs k (by omega)
    have e44 : ((44 : UInt8).toNat : Int) = 44 := rfl
    rw [e44] at e1
    have hn := sp_len 44 s.data.toList
    have := spec_ParseRunners_l0 s (by omega) (sp 44 s.data.toList) (by omega) (fun p hp => by have := sp_small 44 s.data.toList p hp; omega) (sp 44 s.data.toList).length k 0 [] (by omega) rfl (by omega)
    rw [if_neg (by omega), if_neg h, e1]
    simp only [Option.bind_some]
    have e0 : ((0 : Nat) : Int) = 0 := rfl
    rw [e0] at this
    rw [this, List.drop_zero]
    cases optL sN (sp 44 s.data.toList) <;> rfl
theorem impl_ParseRunners_l0 (ps : List (List UInt8)) (hl : ps.length ≤ 1048577) (hp : ∀ p ∈ ps, p.length ≤ 1048576) (q : Nat) : ∀ (k i : Nat) (acc : List S50), i + q = ps.length → acc.length = i → 1048600 + q < k →
    impl_ParseRunners.l0 k acc (ps.map tx) ((ps.map tx).length : Int) (i : Int) = some (fin1 ((optL iN (ps.drop i)).map fun xs => acc ++ xs)) := by
  induction q with
  | zero =>
    intro k i acc hi ha hk
    obtain ⟨k, rfl⟩ : ∃ m, k = m + 1 := ⟨k - 1, by omega⟩
    simp only [impl_ParseRunners.l0]
    rw [List.length_map, if_neg (by omega), List.drop_of_length_le (by omega), impl_AreRunners_eq 1000 acc]
    simp only [Option.bind_some]
    have e : fin1 ((optL iN []).map fun xs => acc ++ xs) = if areRun 1000 acc then (acc, true) else ([], false) := by
      show fin1 (some (acc ++ [])) = _
      rw [List.append_nil]
      rfl
    rw [e]
    by_cases h : areRun 1000 acc
    · rw [decide_eq_true h, if_pos rfl, if_pos h]
    · rw [decide_eq_false h, if_neg Bool.false_ne_true, if_neg h]
  | succ q ih =>
    intro k i acc hi ha hk
    obtain ⟨k, rfl⟩ : ∃ m, k = m + 1 := ⟨k - 1, by omega⟩
    have hlt : i < ps.length := by omega
    have e1 : wrap64 ((i : Int) + 1) = ((i + 1 : Nat) : Int) := by rw [w64 (by omega)]; rfl
    have er : rdOf ByteArray.empty (ps.map tx) (i : Int) = tx ps[i] := by simp [rdOf, hlt]
    have hsz := hp ps[i] (List.getElem_mem hlt)
    have es := impl_readNumbers_eq (tx ps[i]) 62 (by rw [tx_data]; omega) k (by omega)
    rw [tx_data] at es
    simp only [impl_ParseRunners.l0]
    rw [List.drop_eq_getElem_cons hlt, List.length_map, if_pos (by omega), if_pos (by omega), if_pos (by omega), er, es]
    simp only [Option.bind_some]
    by_cases hok : (readNs 62 ps[i]).2 = true
    · obtain ⟨v1, v2⟩ := readNs_len 62 ps[i] hok
      rw [if_pos hok, v1, List.length_map]
      by_cases h2 : (sp 62 ps[i]).length = 2
      · obtain ⟨a, b, hq⟩ := two _ h2
        rw [hq] at v2 ⊢
        simp only [List.all_cons, List.all_nil, Bool.and_true, Bool.and_eq_true] at v2
        have r0 : rd ([a, b].map valN) 0 = valN a := rfl
        have r1 : rd ([a, b].map valN) 1 = valN b := rfl
        have next := ih k (i + 1) (acc ++ [⟨valN a, valN b⟩]) (by omega) (by rw [List.length_append, List.length_singleton]; omega) (by omega)
        rw [List.length_map] at next
        rw [r0, r1, show ((([a, b] : List (List UInt8)).length : Nat) : Int) = 2 from rfl, if_pos rfl, if_pos (by decide), if_pos (by decide), if_pos (by omega), e1, next]
        rw [optL_step]
        rw [iN_two hq, if_pos v2]
        cases optL iN (ps.drop (i + 1)) with
        | none => rfl
        | some xs => simp
      · rw [if_neg (by omega)]
        rw [optL_step]
        rw [iN_not h2]
        rfl
    · rw [if_neg hok]
      have : iN ps[i] = none := by
        by_cases h2 : (sp 62 ps[i]).length = 2
        · obtain ⟨a, b, hq⟩ := two _ h2
          rw [iN_two hq, if_neg]
          intro z
          refine hok ?_
          unfold readNs
          rw [hq, if_pos]
          simp only [List.all_cons, List.all_nil, Bool.and_true, Bool.and_eq_true]
          exact z
        · exact iN_not h2
      rw [optL_step]
      rw [this]
      rfl
theorem impl_ParseRunners_eq (s : ByteArray) (hs : s.data.toList.length ≤ 1048576) (k : Nat) (hk : 2100000 < k) : impl_ParseRunners.f k s = some (fin1 (optL iN (sp 44 s.data.toList))) := by
  have hn := sp_len 44 s.data.toList
  have := impl_ParseRunners_l0 (sp 44 s.data.toList) (by omega) (fun p hp => by have := sp_small 44 s.data.toList p hp; omega) (sp 44 s.data.toList).length k 0 [] (by omega) rfl (by omega)
  unfold impl_ParseRunners.f
  rw [strings_Split_eq s 44 (by omega)]
  simp only [Option.bind_some]
  have e0 : ((0 : Nat) : Int) = 0 := rfl
  rw [e0] at this
  rw [this, List.drop_zero]
  cases optL iN (sp 44 s.data.toList) <;> rfl
theorem holds (s : ByteArray) (_ : s.size ≤ 140737488351232) : ∃ k, laws_FnExactParseRunners.f k s = some true := by
  have hz : s.size = s.data.toList.length := by rw [Array.length_toList]; rfl
  by_cases hb : (s.size : Int) > 1048576
  · refine ⟨0, ?_⟩
    unfold laws_FnExactParseRunners.f
    rw [if_pos hb]
  · obtain ⟨k, hk⟩ : ∃ k : Nat, 2100000 < k := ⟨2100001, by decide⟩
    refine ⟨k + 1 + 1, ?_⟩
    have s1 := spec_ParseRunners_eq s (by omega) (k + 1 + 1) (by omega)
    have i1 := impl_ParseRunners_eq s (by omega) (k + 1 + 1) (by omega)
    have i2 := impl_ParseRunners_eq s (by omega) (k + 1) (by omega)
    have hl := fin1_len (optL iN (sp 44 s.data.toList))
    generalize fin1 (optL iN (sp 44 s.data.toList)) = r at *
    obtain ⟨L, b⟩ := r
    simp only at hl
    have q1 := laws_eqRunnerS_eq L (by omega) (k + 1 + 1) (by omega)
    have q2 := laws_eqRunnerS_eq L (by omega) (k + 1) (by omega)
    have m1 := markRunnerS_ex L (by omega) (k + 1) (by omega)
    have h1 := heldRunnerS_eq L.length (by omega) (k + 1) (by omega)
    have h2 := heldRunnerS_eq L.length (by omega) k (by omega)
    have hn : ¬ (2 * (L.length : Int) + 1 < 0) := by omega
    unfold laws_FnExactParseRunners.f
    rw [if_neg hb, s1]
    simp only [Option.bind_some]
    rw [i1]
    simp only [Option.bind_some]
    rw [q1]
    simp only [Option.bind_some, if_true, bne_self_eq_false]
    simp only [laws_FnExactParseRunners.j0]
    rw [if_neg Bool.false_ne_true, m1]
    simp only [Option.bind_some]
    rw [h1]
    simp only [Option.bind_some]
    rw [if_neg hn, if_pos (by trivial), i2]
    simp only [Option.bind_some]
    rw [q2]
    simp only [Option.bind_some, if_true, bne_self_eq_false]
    simp only [laws_FnExactParseRunners.j1]
    rw [if_neg Bool.false_ne_true, h2]
    simp only [Option.bind_some]
    rw [if_neg hn, if_pos (by trivial)]

end Go.Proofs.YtiokkigigcjnpaaDoor.QFnExactParseRunners
