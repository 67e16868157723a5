/- The law FnExactRunnersText in plain Lean, over the printed functions: it returns true for every input (no condition). -/
import Derived.Test.YtiokkigigcjnpaaDoorPFnExactRunnersTextx4
import Derived.OpenShut
namespace Go.Proofs.YtiokkigigcjnpaaDoor.QFnExactRunnersText
open Go.RowKit Go.ChangeShapes Go.WideShapes Go.Proofs.YtiokkigigcjnpaaDoor.PFnExactRunnersText Go.Proofs.YtiokkigigcjnpaaDoorW.PrintWords Go.Proofs.YtiokkigigcjnpaaDoorW.PrintLast Go.Proofs.YtiokkigigcjnpaaDoorW.PrintMore
set_option linter.unusedVariables false
set_option linter.unusedSimpArgs false
theorem w64 {x : Int} (h : -9223372036854775808 ≤ x ∧ x ≤ 9223372036854775807) : wrap64 x = x := by unfold wrap64; omega
theorem bm {a b A B : Int} (ha : 0 ≤ a ∧ a ≤ A) (hb : 0 ≤ b ∧ b ≤ B) : 0 ≤ a * b ∧ a * b ≤ A * B :=
  ⟨Int.mul_nonneg ha.1 hb.1, Int.mul_le_mul ha.2 hb.2 hb.1 (Int.le_trans ha.1 ha.2)⟩
theorem gcd_step (a b : Int) (ha : 0 ≤ a) (hb : 0 ≤ b) : Int.gcd b (a.tmod b) = Int.gcd a b := by
  obtain ⟨m, rfl⟩ := Int.eq_ofNat_of_zero_le ha
  obtain ⟨n, rfl⟩ := Int.eq_ofNat_of_zero_le hb
  rw [← Int.ofNat_tmod]
  show Nat.gcd n (m % n) = Nat.gcd m n
  rw [Nat.gcd_comm n, ← Nat.gcd_rec, Nat.gcd_comm]
def lowN (a b : Int) : Int := a / (Int.gcd a b : Int)
def lowD (a b : Int) : Int := b / (Int.gcd a b : Int)
theorem gpos {a b : Int} (hb : 0 < b) : 0 < (Int.gcd a b : Int) := by
  have := Int.gcd_pos_of_ne_zero_right a (show b ≠ 0 by omega)
  omega
theorem gle {a b : Int} (hb : 0 < b) : (Int.gcd a b : Int) ≤ b := Int.le_of_dvd hb (Int.gcd_dvd_right a b)
theorem tdiv_gcd_l (a b : Int) : a.tdiv (Int.gcd a b) = lowN a b := by
  unfold lowN
  exact (Int.tdiv_eq_ediv_of_dvd (Int.gcd_dvd_left a b))
theorem tdiv_gcd_r (a b : Int) : b.tdiv (Int.gcd a b) = lowD a b := by
  unfold lowD
  exact (Int.tdiv_eq_ediv_of_dvd (Int.gcd_dvd_right a b))
theorem low_range {a b M : Int} (hb : 0 < b) (ha : -M ≤ a ∧ a ≤ M) : -M ≤ lowN a b ∧ lowN a b ≤ M := by
  unfold lowN
  have g := gpos (a := a) hb
  have hM : 0 ≤ M := by omega
  have e := Int.ediv_mul_cancel (Int.gcd_dvd_left a b)
  constructor
  · apply Int.le_ediv_of_mul_le g
    have : -M * (Int.gcd a b : Int) ≤ -M * 1 := Int.mul_le_mul_of_nonpos_left (by omega) (by omega)
    omega
  · rcases Int.le_total 0 a with h | h
    · have := Int.ediv_le_self (Int.gcd a b : Int) h
      omega
    · have := Int.ediv_le_ediv g h
      rw [Int.zero_ediv] at this
      omega
theorem lowD_range {a b : Int} (hb : 0 < b) : 1 ≤ lowD a b ∧ lowD a b ≤ b := by
  unfold lowD
  have g := gpos (a := a) hb
  constructor
  · apply Int.le_ediv_of_mul_le g
    have := gle (a := a) hb
    omega
  · exact Int.ediv_le_self _ (by omega)
theorem bms {a b A B : Int} (ha : -A ≤ a ∧ a ≤ A) (hb : 0 ≤ b ∧ b ≤ B) : -(A * B) ≤ a * b ∧ a * b ≤ A * B := by
  have hA : 0 ≤ A := by omega
  rcases Int.le_total 0 a with h | h
  · have := bm ⟨h, ha.2⟩ hb
    have := Int.mul_nonneg hA (Int.le_trans hb.1 hb.2)
    omega
  · have := bm (a := -a) (A := A) ⟨by omega, by omega⟩ hb
    have e : -a * b = -(a * b) := Int.neg_mul a b
    omega
theorem low_scale (a b c : Int) (hc : 0 < c) : lowN (a * c) (b * c) = lowN a b ∧ lowD (a * c) (b * c) = lowD a b := by
  have e : (Int.gcd (a * c) (b * c) : Int) = (Int.gcd a b : Int) * c := by
    rw [Int.gcd_mul_right]
    have : (c.natAbs : Int) = c := by omega
    rw [Int.natCast_mul, this]
  unfold lowN lowD
  rw [e]
  exact ⟨Int.mul_ediv_mul_of_pos_left a _ hc, Int.mul_ediv_mul_of_pos_left b _ hc⟩
theorem w64b {x B : Int} (h : 0 ≤ x ∧ x ≤ B) (hB : B ≤ 9223372036854775807) : wrap64 x = x := w64 ⟨Int.le_trans (by decide) h.1, Int.le_trans h.2 hB⟩
theorem ad {x y A B : Int} (hx : 0 ≤ x ∧ x ≤ A) (hy : 0 ≤ y ∧ y ≤ B) : 0 ≤ x + y ∧ x + y ≤ A + B := ⟨Int.add_nonneg hx.1 hy.1, Int.add_le_add hx.2 hy.2⟩

theorem laws_szRunnerS_eq (l : List S52) (hl : l.length ≤ 9223372036854775807) : laws_szRunnerS.f l 1048576 = some (if 1048576 < l.length then -1 else 1048576 - (l.length : Int)) := by
  unfold laws_szRunnerS.f
  rw [w64 (by omega)]
  by_cases h : 1048576 < l.length
  · rw [if_pos h, if_pos (by omega)]
  · rw [if_neg h, if_neg (by omega)]

theorem spec_l1In_eq (a b c : Int) : spec_l1In.f a b c = some (decide (b ≤ a ∧ a ≤ c)) := by
  unfold spec_l1In.f
  by_cases h : b ≤ a <;> simp [h]

theorem spec_trLap_eq (a : Int) : spec_trLap.f a = some (decide (2 ≤ a ∧ a ≤ 1000)) := by
  simp only [spec_trLap.f, spec_l1In_eq, Option.bind_some]

/-- a runner of a track -/
def isRun (a s v : Int) : Prop := (0 ≤ s ∧ s ≤ a - 1) ∧ (1 ≤ v ∧ v ≤ 100)
instance (a s v : Int) : Decidable (isRun a s v) := by unfold isRun; infer_instance
theorem spec_trRunner_eq (a s v : Int) : spec_trRunner.f a s v = some (decide ((2 ≤ a ∧ a ≤ 1000) ∧ isRun a s v)) := by
  simp only [spec_trRunner.f, spec_trLap_eq, spec_l1In_eq, Option.bind_some]
  by_cases h1 : 2 ≤ a ∧ a ≤ 1000
  · rw [w64 (x := a - 1) (by omega)]
    by_cases h2 : 0 ≤ s ∧ s ≤ a - 1
    · by_cases h3 : 1 ≤ v ∧ v ≤ 100
      · have : isRun a s v := ⟨h2, h3⟩
        simp [h1, h2, h3, this]
      · have : ¬ isRun a s v := fun z => h3 z.2
        simp [h1, h2, h3, this]
    · have : ¬ isRun a s v := fun z => h2 z.1
      simp [h1, h2, this]
  · simp [h1]

theorem spec_trList_l0 (a : Int) (l : List S50) (hl : l.length ≤ 1000000000) (d : Nat) : ∀ (k i : Nat), i + d = l.length → d < k →
    spec_trList.l0 k a l (l.length : Int) (i : Int) = some (decide (∀ x ∈ l.drop i, (2 ≤ a ∧ a ≤ 1000) ∧ isRun a x.f0 x.f1)) := by
  induction d with
  | zero =>
    intro k i hi' hk
    obtain ⟨k, rfl⟩ : ∃ m, k = m + 1 := ⟨k - 1, by omega⟩
    simp only [spec_trList.l0]
    rw [if_neg (by omega), List.drop_of_length_le (by omega)]
    simp
  | succ d ih =>
    intro k i hi' hk
    obtain ⟨k, rfl⟩ : ∃ m, k = m + 1 := ⟨k - 1, by omega⟩
    have hlt : i < l.length := by omega
    have er : rd_T50 l (i : Int) = l[i] := by simp [rd_T50, hlt]
    simp only [spec_trList.l0]
    rw [if_pos (by omega), if_pos (by omega), if_pos (by omega), er, spec_trRunner_eq, List.drop_eq_getElem_cons hlt]
    simp only [Option.bind_some]
    have e1 : wrap64 ((i : Int) + 1) = ((i + 1 : Nat) : Int) := by rw [w64 (by omega)]; rfl
    rw [e1, ih k (i + 1) (by omega) (by omega)]
    have e2 : (∀ x ∈ l[i] :: l.drop (i + 1), (2 ≤ a ∧ a ≤ 1000) ∧ isRun a x.f0 x.f1) ↔ (((2 ≤ a ∧ a ≤ 1000) ∧ isRun a l[i].f0 l[i].f1) ∧ ∀ x ∈ l.drop (i + 1), (2 ≤ a ∧ a ≤ 1000) ∧ isRun a x.f0 x.f1) := List.forall_mem_cons
    by_cases h : (2 ≤ a ∧ a ≤ 1000) ∧ isRun a l[i].f0 l[i].f1
    · rw [decide_eq_true h, if_pos rfl]
      exact congrArg some (decide_eq_decide.mpr (e2.trans ⟨fun z => z.2, fun z => ⟨h, z⟩⟩).symm)
    · rw [decide_eq_false h, if_neg Bool.false_ne_true]
      exact congrArg some (decide_eq_false (fun z => h (e2.1 z).1)).symm
theorem spec_trList_iff (a : Int) (l : List S50) (hl : l.length ≤ 1000000000) (k : Nat) (hk : l.length < k) : ∃ b, spec_trList.f k a l = some b ∧ (b = true ↔ ((1 ≤ l.length ∧ l.length ≤ 6) ∧ ∀ x ∈ l, (2 ≤ a ∧ a ≤ 1000) ∧ isRun a x.f0 x.f1)) := by
  unfold spec_trList.f
  rw [spec_l1In_eq]
  simp only [Option.bind_some]
  by_cases h : 1 ≤ (l.length : Int) ∧ (l.length : Int) ≤ 6
  · have := spec_trList_l0 a l hl l.length k 0 (by omega) hk
    refine ⟨_, by rw [decide_eq_true h, if_pos rfl]; exact this, ?_⟩
    rw [decide_eq_true_eq, List.drop_zero]
    exact ⟨fun z => ⟨by omega, z⟩, fun z => z.2⟩
  · refine ⟨false, by rw [decide_eq_false h]; rfl, ?_⟩
    constructor
    · intro z
      cases z
    · intro z
      exact absurd (by have := z.1; omega) h

/-- a list of bytes as a text -/
def tx (l : List UInt8) : ByteArray := ⟨l.toArray⟩
theorem tx_size (l : List UInt8) : (tx l).size = l.length := by simp [tx, ByteArray.size]
theorem tx_data (l : List UInt8) : (tx l).data.toList = l := by simp [tx]
theorem tx_append (a b : List UInt8) : tx a ++ tx b = tx (a ++ b) := by
  apply ByteArray.ext
  simp [tx, ByteArray.data_append]
theorem tx_of (s : ByteArray) : tx s.data.toList = s := by
  apply ByteArray.ext
  simp [tx]
theorem tx_inj {a b : List UInt8} (h : tx a = tx b) : a = b := by rw [← tx_data a, ← tx_data b, h]
theorem dec_len (n : Nat) : (Go.Lib.decDigits n).length ≤ n + 1 := by
  induction n using Nat.strongRecOn with
  | _ n ih =>
    rw [Go.Lib.decDigits]
    split
    · simp
    · have := ih (n / 10) (by omega)
      simp only [List.length_append, List.length_cons, List.length_nil]
      omega
theorem itoa_nat (n : Nat) : Go.Lib.itoa (n : Int) = Go.Lib.decDigits n := by
  unfold Go.Lib.itoa
  rw [if_neg (by omega), Int.toNat_natCast]
theorem itoa_len (x : Int) (h : 0 ≤ x) : ((Go.Lib.itoa x).length : Int) ≤ x + 1 := by
  obtain ⟨n, rfl⟩ := Int.eq_ofNat_of_zero_le h
  rw [itoa_nat]
  have := dec_len n
  omega
theorem digit_text (d : Nat) (h : d < 10) : strOfNums [wrap64 (48 + (d : Int)) % 256] = tx [UInt8.ofNat (48 + d)] := by
  rw [w64 (by omega), Int.emod_eq_of_lt (by omega) (by omega)]
  have : (48 + (d : Int)).toNat = 48 + d := by omega
  unfold strOfNums tx
  rw [List.map_cons, List.map_nil, this]
theorem spec_l1Num_nat (n : Nat) : ∀ k : Nat, n ≤ 1000000 → n < k → spec_l1Num.f k (n : Int) = some (tx (Go.Lib.decDigits n)) := by
  induction n using Nat.strongRecOn with
  | _ n ih =>
    intro k hn hk
    obtain ⟨k, rfl⟩ : ∃ m, k = m + 1 := ⟨k - 1, by omega⟩
    rw [Go.Lib.decDigits]
    simp only [spec_l1Num.f]
    by_cases h : n < 10
    · rw [if_pos (by omega), dif_pos h, digit_text n h]
    · have e1 : wrap64 (Int.tdiv (n : Int) 10) = ((n / 10 : Nat) : Int) := by
        rw [Int.tdiv_eq_ediv_of_nonneg (by omega), w64 (by omega)]
        rfl
      have e2 : Int.tmod (n : Int) 10 = ((n % 10 : Nat) : Int) := by
        rw [Int.tmod_eq_emod_of_nonneg (by omega)]
        rfl
      have hl := dec_len (n / 10)
      rw [if_neg (by omega), dif_neg h, e1, ih (n / 10) (by omega) k (by omega) (by omega), e2]
      simp only [Option.bind_some]
      rw [digit_text (n % 10) (by omega), if_pos (by rw [tx_size, tx_size]; simp only [List.length_cons, List.length_nil]; omega), tx_append]
theorem spec_l1Num_eq (x : Int) (h : 0 ≤ x ∧ x ≤ 1000000) (k : Nat) (hk : 1000000 < k) : spec_l1Num.f k x = some (tx (Go.Lib.itoa x)) := by
  obtain ⟨n, rfl⟩ := Int.eq_ofNat_of_zero_le h.1
  rw [itoa_nat]
  exact spec_l1Num_nat n k (by omega) (by omega)

/-- the list as the program has it -/
def conv (l : List S52) : List S50 := l.map fun x => ⟨x.f0, x.f1⟩
theorem conv_length (l : List S52) : (conv l).length = l.length := by simp [conv]
theorem conv_rd (l : List S52) (i : Nat) (h : i < l.length) : (⟨(rd_T52 l (i : Int)).f0, (rd_T52 l (i : Int)).f1⟩ : S50) = (conv l)[i]'(by rw [conv_length]; exact h) := by
  simp [rd_T52, conv, h]
theorem laws_toRunnerS_l0 (l : List S52) (hl : l.length ≤ 1000000000) (d : Nat) : ∀ (k i : Nat), i + d = l.length → d < k →
    laws_toRunnerS.l0 k l ((conv l).take i ++ List.replicate d z50) (i : Int) = some (conv l) := by
  induction d with
  | zero =>
    intro k i hi hk
    obtain ⟨k, rfl⟩ : ∃ m, k = m + 1 := ⟨k - 1, by omega⟩
    simp only [laws_toRunnerS.l0]
    rw [if_neg (by omega), List.take_of_length_le (by rw [conv_length]; omega)]
    simp
  | succ d ih =>
    intro k i hi hk
    obtain ⟨k, rfl⟩ : ∃ m, k = m + 1 := ⟨k - 1, by omega⟩
    have hlt : i < l.length := by omega
    have hlc : i < (conv l).length := by rw [conv_length]; exact hlt
    have hlen : ((conv l).take i ++ List.replicate (d + 1) z50).length = l.length := by
      rw [List.length_append, List.length_take, List.length_replicate, conv_length]
      omega
    have e1 : wrap64 ((i : Int) + 1) = ((i + 1 : Nat) : Int) := by rw [w64 (by omega)]; rfl
    simp only [laws_toRunnerS.l0, laws_toRunner.f, Option.bind_some]
    rw [if_pos (by omega), if_pos (by omega), hlen, if_pos (by omega), e1]
    have es : ((conv l).take i ++ List.replicate (d + 1) z50).set (i : Int).toNat ⟨(rd_T52 l (i : Int)).f0, (rd_T52 l (i : Int)).f1⟩ = (conv l).take (i + 1) ++ List.replicate d z50 := by
      rw [Int.toNat_natCast, conv_rd l i hlt, List.set_append_right _ _ (by rw [List.length_take]; omega), List.length_take, Nat.min_eq_left (by omega), Nat.sub_self, List.replicate_succ, List.set_cons_zero, List.take_succ_eq_append_getElem hlc, List.append_assoc]
      rfl
    rw [es]
    exact ih k (i + 1) (by omega) (by omega)
theorem laws_toRunnerS_eq (l : List S52) (hl : l.length ≤ 1000000000) (k : Nat) (hk : l.length < k) : laws_toRunnerS.f k l = some (conv l) := by
  unfold laws_toRunnerS.f
  rw [if_pos (Int.natCast_nonneg _), if_pos (by rw [Int.toNat_natCast]; omega), Int.toNat_natCast]
  have := laws_toRunnerS_l0 l hl l.length k 0 (by omega) hk
  simpa using this

theorem join_len (xs : List (List UInt8)) (sep : List UInt8) (M : Nat) (h : ∀ x ∈ xs, x.length ≤ M) : (Go.Lib.join xs sep).length ≤ xs.length * (M + sep.length) := by
  have tail : ∀ ys : List (List UInt8), (∀ x ∈ ys, x.length ≤ M) → (Go.Lib.joinTail sep ys).length ≤ ys.length * (M + sep.length) := by
    intro ys
    induction ys with
    | nil => intro _; simp [Go.Lib.joinTail]
    | cons y r ih =>
      intro hy
      have h1 := hy y List.mem_cons_self
      have h2 := ih (fun x hx => hy x (List.mem_cons_of_mem _ hx))
      unfold Go.Lib.joinTail at *
      rw [List.map_cons, List.flatten_cons, List.length_append, List.length_append, List.length_cons, Nat.succ_mul]
      omega
  cases xs with
  | nil => simp [Go.Lib.join_nil]
  | cons x r =>
    have h1 := h x List.mem_cons_self
    have h2 := tail r (fun y hy => h y (List.mem_cons_of_mem _ hy))
    rw [Go.Lib.join_cons, List.length_append, List.length_cons, Nat.succ_mul]
    omega
theorem strings_Join_eq (xs : List (List UInt8)) (sep : ByteArray) (h : (Go.Lib.join xs sep.data.toList).length ≤ 140737488355328) (hl : xs.length ≤ 140737488355328) : strings_Join.f (xs.map tx) sep = some (tx (Go.Lib.join xs sep.data.toList)) := by
  have e : (xs.map tx).map (·.data.toList) = xs := by
    rw [List.map_map]
    conv => rhs; rw [← List.map_id xs]
    exact List.map_congr_left fun x _ => tx_data x
  unfold strings_Join.f
  rw [e, if_pos ⟨h, by rw [List.length_map]; exact hl⟩]
  rfl
theorem joinNumbers_l0 (l : List Int) (sep : ByteArray) (hl : l.length ≤ 1000) (hb : ∀ x ∈ l, 0 ≤ x ∧ x ≤ 1000000) (hs : sep.size ≤ 1000) (q : Nat) : ∀ (k i : Nat), i + q = l.length → q < k →
    impl_joinNumbers.l0 k sep ((l.take i).map (fun x => tx (Go.Lib.itoa x)) ++ List.replicate q (tx [])) l (l.length : Int) (i : Int) = some (tx (Go.Lib.join (l.map Go.Lib.itoa) sep.data.toList)) := by
  induction q with
  | zero =>
    intro k i hi hk
    obtain ⟨k, rfl⟩ : ∃ m, k = m + 1 := ⟨k - 1, by omega⟩
    have e : ((l.take i).map (fun x => tx (Go.Lib.itoa x)) ++ List.replicate 0 (tx [])) = (l.map Go.Lib.itoa).map tx := by
      rw [List.replicate_zero, List.append_nil, List.take_of_length_le (by omega), List.map_map]
      rfl
    have hj := join_len (l.map Go.Lib.itoa) sep.data.toList 1000001 (by
      intro x hx
      obtain ⟨y, hy, rfl⟩ := List.mem_map.mp hx
      have h1 := hb y hy
      have h2 := itoa_len y h1.1
      omega)
    have hz : sep.data.toList.length = sep.size := by rw [Array.length_toList]; rfl
    rw [List.length_map, hz] at hj
    have hm : l.length * (1000001 + sep.size) ≤ 1000 * 1001001 := Nat.mul_le_mul hl (by omega)
    simp only [impl_joinNumbers.l0]
    rw [if_neg (by omega), e, strings_Join_eq (l.map Go.Lib.itoa) sep (by omega) (by rw [List.length_map]; omega)]
    rfl
  | succ q ih =>
    intro k i hi hk
    obtain ⟨k, rfl⟩ : ∃ m, k = m + 1 := ⟨k - 1, by omega⟩
    have hlt : i < l.length := by omega
    have e1 : wrap64 ((i : Int) + 1) = ((i + 1 : Nat) : Int) := by rw [w64 (by omega)]; rfl
    have er : rd l (i : Int) = l[i] := by simp [rd, hlt]
    have hx := hb l[i] (List.getElem_mem hlt)
    have eI : strconv_Itoa.f l[i] = some (tx (Go.Lib.itoa l[i])) := by
      unfold strconv_Itoa.f
      rw [if_pos (by omega)]
      rfl
    have hlen : ((l.take i).map (fun x => tx (Go.Lib.itoa x)) ++ List.replicate (q + 1) (tx [])).length = l.length := by
      rw [List.length_append, List.length_map, List.length_take, List.length_replicate]
      omega
    have es : ((l.take i).map (fun x => tx (Go.Lib.itoa x)) ++ List.replicate (q + 1) (tx [])).set (i : Int).toNat (tx (Go.Lib.itoa l[i])) = (l.take (i + 1)).map (fun x => tx (Go.Lib.itoa x)) ++ List.replicate q (tx []) := by
      have hi2 : ((l.take i).map (fun x => tx (Go.Lib.itoa x))).length = i := by rw [List.length_map, List.length_take]; omega
      rw [Int.toNat_natCast, List.set_append_right _ _ (by rw [hi2]; exact Nat.le_refl _), hi2, Nat.sub_self, List.replicate_succ, List.set_cons_zero, List.take_add_one, List.getElem?_eq_getElem hlt, List.map_append]
      simp
    have next := ih k (i + 1) (by omega) (by omega)
    rw [← es] at next
    simp only [impl_joinNumbers.l0]
    rw [if_pos (by omega), if_pos (by omega), if_pos (by omega), er, eI]
    simp only [Option.bind_some]
    rw [hlen, if_pos (by omega), e1]
    exact next
theorem impl_joinNumbers_eq (l : List Int) (sep : ByteArray) (hl : l.length ≤ 1000) (hb : ∀ x ∈ l, 0 ≤ x ∧ x ≤ 1000000) (hs : sep.size ≤ 1000) (k : Nat) (hk : 1000 < k) : impl_joinNumbers.f k l sep = some (tx (Go.Lib.join (l.map Go.Lib.itoa) sep.data.toList)) := by
  have := joinNumbers_l0 l sep hl hb hs l.length k 0 (by omega) (by omega)
  rw [List.take_zero, List.map_nil, List.nil_append] at this
  unfold impl_joinNumbers.f
  rw [if_pos (by omega), if_pos (by omega), Int.toNat_natCast]
  exact this

theorem impl_within_eq (a b c : Int) : impl_within.f a b c = some (decide (b ≤ a ∧ a ≤ c)) := by
  unfold impl_within.f
  by_cases h : b ≤ a <;> simp [h]

theorem impl_isRunner_eq (a s v : Int) (h1 : 2 ≤ a ∧ a ≤ 1000) : impl_isRunner.f a s v = some (decide (isRun a s v)) := by
  simp only [impl_isRunner.f, impl_within_eq, Option.bind_some]
  rw [w64 (x := a - 1) (by omega)]
  by_cases h2 : 0 ≤ s ∧ s ≤ a - 1
  · by_cases h3 : 1 ≤ v ∧ v ≤ 100
    · have : isRun a s v := ⟨h2, h3⟩
      simp [h2, h3, this]
    · have : ¬ isRun a s v := fun z => h3 z.2
      simp [h2, h3, this]
  · have : ¬ isRun a s v := fun z => h2 z.1
    simp [h2, this]

theorem noRun_eq (a : Int) (x : S50) (h1 : 2 ≤ a ∧ a ≤ 1000) : noRun a x = !(decide (isRun a x.f0 x.f1)) := by
  unfold noRun
  rw [impl_isRunner_eq a x.f0 x.f1 h1]
  rfl
/-- runners of a track -/
def areRun (a : Int) (l : List S50) : Prop := (2 ≤ a ∧ a ≤ 1000) ∧ (1 ≤ l.length ∧ l.length ≤ 6) ∧ ∀ x ∈ l, isRun a x.f0 x.f1
instance (a : Int) (l : List S50) : Decidable (areRun a l) := by unfold areRun; infer_instance
theorem impl_AreRunners_eq (a : Int) (l : List S50) : impl_AreRunners.f a l = some (decide (areRun a l)) := by
  unfold impl_AreRunners.f
  rw [impl_within_eq, impl_within_eq]
  simp only [Option.bind_some]
  by_cases h1 : 2 ≤ a ∧ a ≤ 1000
  · by_cases h2 : 1 ≤ (l.length : Int) ∧ (l.length : Int) ≤ 6
    · simp only [h1, h2, and_self, decide_true, if_true, Option.some.injEq]
      by_cases h3 : ∀ x ∈ l, isRun a x.f0 x.f1
      · have z : areRun a l := ⟨h1, by omega, h3⟩
        rw [decide_eq_true z, Bool.not_eq_true', List.any_eq_false]
        intro x hx
        rw [noRun_eq a x h1]
        simp [h3 x hx]
      · have z : ¬ areRun a l := fun y => h3 y.2.2
        rw [decide_eq_false z, Bool.not_eq_false', List.any_eq_true]
        have ⟨x, hx⟩ := Classical.not_forall.mp h3
        have ⟨hm, hn⟩ := Classical.not_imp.mp hx
        exact ⟨x, hm, by rw [noRun_eq a x h1]; simp [hn]⟩
    · have z : ¬ areRun a l := fun y => h2 (by have := y.2.1; omega)
      simp only [h1, h2, and_self, decide_true, decide_false, if_true, Bool.false_eq_true, if_false, decide_eq_false z]
  · have z : ¬ areRun a l := fun y => h1 y.1
    simp only [h1, decide_false, Bool.false_eq_true, if_false, decide_eq_false z]

def runTx (x : S50) : List UInt8 := Go.Lib.itoa x.f0 ++ [62] ++ Go.Lib.itoa x.f1
def runsTx (l : List S50) : List UInt8 := Go.Lib.join (l.map runTx) [44]
theorem join_snoc (x : List UInt8) (r : List (List UInt8)) (y sep : List UInt8) : Go.Lib.join (x :: r ++ [y]) sep = Go.Lib.join (x :: r) sep ++ sep ++ y := by
  rw [List.cons_append, Go.Lib.join_cons, Go.Lib.join_cons]
  unfold Go.Lib.joinTail
  rw [List.map_append, List.flatten_append]
  simp
theorem runTx_len {a : Int} {x : S50} (ha : a ≤ 1000) (h : isRun a x.f0 x.f1) : (runTx x).length ≤ 2000 := by
  unfold isRun at h
  have h1 := itoa_len x.f0 (by omega)
  have h2 := itoa_len x.f1 (by omega)
  unfold runTx
  simp only [List.length_append, List.length_cons, List.length_nil]
  omega
theorem lit62 : (⟨#[62]⟩ : ByteArray) = tx [62] := rfl
theorem lit44 : (⟨#[44]⟩ : ByteArray) = tx [44] := rfl
theorem join_len' (xs : List (List UInt8)) (sep : List UInt8) (M : Nat) (h : ∀ x ∈ xs, x.length ≤ M) : (Go.Lib.join xs sep).length ≤ xs.length * (M + sep.length) := by
  have tail : ∀ ys : List (List UInt8), (∀ x ∈ ys, x.length ≤ M) → (Go.Lib.joinTail sep ys).length ≤ ys.length * (M + sep.length) := by
    intro ys
    induction ys with
    | nil => intro _; simp [Go.Lib.joinTail]
    | cons y r ih =>
      intro hy
      have h1 := hy y List.mem_cons_self
      have h2 := ih (fun x hx => hy x (List.mem_cons_of_mem _ hx))
      unfold Go.Lib.joinTail at *
      rw [List.map_cons, List.flatten_cons, List.length_append, List.length_append, List.length_cons, Nat.succ_mul]
      omega
  cases xs with
  | nil => simp [Go.Lib.join_nil]
  | cons x r =>
    have h1 := h x List.mem_cons_self
    have h2 := tail r (fun y hy => h y (List.mem_cons_of_mem _ hy))
    rw [Go.Lib.join_cons, List.length_append, List.length_cons, Nat.succ_mul]
    omega
theorem runsTx_len {a : Int} {l : List S50} (h : areRun a l) (l' : List S50) (hs : ∀ x ∈ l', x ∈ l) (hl : l'.length ≤ 6) : (runsTx l').length ≤ 13000 := by
  have := join_len' (l'.map runTx) [44] 2000 (by
    intro x hx
    obtain ⟨y, hy, rfl⟩ := List.mem_map.mp hx
    exact runTx_len h.1.2 (h.2.2 y (hs y hy)))
  rw [List.length_map, List.length_singleton] at this
  have h2 : l'.length * (2000 + 1) ≤ 6 * 2001 := Nat.mul_le_mul_right _ hl
  unfold runsTx
  omega
theorem trText_l0 (a : Int) (l : List S50) (h : areRun a l) (q : Nat) : ∀ (k i : Nat), i + q = l.length → 1000000 + q < k →
    spec_trText.l0 k (tx (runsTx (l.take i))) l (l.length : Int) (i : Int) = some (tx (runsTx l)) := by
  have g := h
  obtain ⟨ha, hl, hv⟩ := g
  induction q with
  | zero =>
    intro k i hi hk
    obtain ⟨k, rfl⟩ : ∃ m, k = m + 1 := ⟨k - 1, by omega⟩
    simp only [spec_trText.l0]
    rw [if_neg (by omega), List.take_of_length_le (by omega)]
  | succ q ih =>
    intro k i hi hk
    obtain ⟨k, rfl⟩ : ∃ m, k = m + 1 := ⟨k - 1, by omega⟩
    have hlt : i < l.length := by omega
    have e1 : wrap64 ((i : Int) + 1) = ((i + 1 : Nat) : Int) := by rw [w64 (by omega)]; rfl
    have er : rd_T50 l (i : Int) = l[i] := by simp [rd_T50, hlt]
    have hx := hv l[i] (List.getElem_mem hlt)
    have hy := hx
    unfold isRun at hy
    have n1 := itoa_len l[i].f0 (by omega)
    have n2 := itoa_len l[i].f1 (by omega)
    have acc := runsTx_len h (l.take i) (fun x hx => List.mem_of_mem_take hx) (by rw [List.length_take]; omega)
    have next := ih k (i + 1) (by omega) (by omega)
    simp only [spec_trText.l0]
    rw [if_pos (by omega), if_pos (by omega), if_pos (by omega), er, e1, spec_l1Num_eq l[i].f0 (by omega) k (by omega), spec_l1Num_eq l[i].f1 (by omega) k (by omega)]
    simp only [Option.bind_some, lit62, lit44, tx_append, tx_size, List.length_append, List.length_cons, List.length_nil]
    have et : l.take (i + 1) = l.take i ++ [l[i]] := by rw [List.take_add_one, List.getElem?_eq_getElem hlt]; rfl
    by_cases z : i = 0
    · subst z
      rw [if_neg (by omega), if_pos (by omega), if_pos (by omega), if_pos (by omega)]
      rw [et] at next
      have e0 : runsTx (l.take 0 ++ [l[0]]) = runsTx (l.take 0) ++ (Go.Lib.itoa l[0].f0 ++ ([62] : List UInt8) ++ Go.Lib.itoa l[0].f1) := by
        rw [List.take_zero, List.nil_append]
        unfold runsTx
        rw [List.map_cons, List.map_nil, Go.Lib.join_one, Go.Lib.join_nil]
        rfl
      rw [e0] at next
      exact next
    · rw [if_pos (by omega), if_pos (by omega), if_pos (by omega), if_pos (by omega), if_pos (by omega)]
      rw [et] at next
      have e0 : runsTx (l.take i ++ [l[i]]) = runsTx (l.take i) ++ ([44] : List UInt8) ++ (Go.Lib.itoa l[i].f0 ++ ([62] : List UInt8) ++ Go.Lib.itoa l[i].f1) := by
        obtain ⟨x, r, hxr⟩ : ∃ x r, l.take i = x :: r := by
          cases hc : l.take i with
          | nil =>
            have := congrArg List.length hc
            rw [List.length_take, List.length_nil] at this
            omega
          | cons x r => exact ⟨x, r, rfl⟩
        rw [hxr]
        unfold runsTx
        rw [List.map_append, List.map_cons, List.map_cons, List.map_nil, join_snoc]
        rfl
      rw [e0] at next
      exact next
theorem spec_trText_eq (a : Int) (l : List S50) (h : areRun a l) (k : Nat) (hk : 1000010 < k) : spec_trText.f k l = some (tx (runsTx l)) := by
  have := h.2.1
  have := trText_l0 a l h l.length k 0 (by omega) (by omega)
  unfold spec_trText.f
  exact this
theorem runText_l0 (a : Int) (l : List S50) (h : areRun a l) (q : Nat) : ∀ (k i : Nat), i + q = l.length → 1000 + q < k →
    impl_RunnersText.l0 k ((l.take i).map (fun x => tx (runTx x)) ++ List.replicate q (tx [])) l (l.length : Int) (i : Int) = some (tx (runsTx l), true) := by
  have g := h
  obtain ⟨ha, hl, hv⟩ := g
  induction q with
  | zero =>
    intro k i hi hk
    obtain ⟨k, rfl⟩ : ∃ m, k = m + 1 := ⟨k - 1, by omega⟩
    have e : ((l.take i).map (fun x => tx (runTx x)) ++ List.replicate 0 (tx [])) = (l.map runTx).map tx := by
      rw [List.replicate_zero, List.append_nil, List.take_of_length_le (by omega), List.map_map]
      rfl
    have hj := runsTx_len h l (fun _ hx => hx) (by omega)
    unfold runsTx at hj
    simp only [impl_RunnersText.l0]
    rw [if_neg (by omega), e, strings_Join_eq (l.map runTx) (⟨#[44]⟩ : ByteArray) (by show (Go.Lib.join (l.map runTx) [44]).length ≤ _; omega) (by rw [List.length_map]; omega)]
    rfl
  | succ q ih =>
    intro k i hi hk
    obtain ⟨k, rfl⟩ : ∃ m, k = m + 1 := ⟨k - 1, by omega⟩
    have hlt : i < l.length := by omega
    have e1 : wrap64 ((i : Int) + 1) = ((i + 1 : Nat) : Int) := by rw [w64 (by omega)]; rfl
    have er : rd_T50 l (i : Int) = l[i] := by simp [rd_T50, hlt]
    have hx := hv l[i] (List.getElem_mem hlt)
    unfold isRun at hx
    have hlen : ((l.take i).map (fun x => tx (runTx x)) ++ List.replicate (q + 1) (tx [])).length = l.length := by
      rw [List.length_append, List.length_map, List.length_take, List.length_replicate]
      omega
    have es : ((l.take i).map (fun x => tx (runTx x)) ++ List.replicate (q + 1) (tx [])).set (i : Int).toNat (tx (runTx l[i])) = (l.take (i + 1)).map (fun x => tx (runTx x)) ++ List.replicate q (tx []) := by
      have hi2 : ((l.take i).map (fun x => tx (runTx x))).length = i := by rw [List.length_map, List.length_take]; omega
      rw [Int.toNat_natCast, List.set_append_right _ _ (by rw [hi2]; exact Nat.le_refl _), hi2, Nat.sub_self, List.replicate_succ, List.set_cons_zero, List.take_add_one, List.getElem?_eq_getElem hlt, List.map_append]
      simp
    have next := ih k (i + 1) (by omega) (by omega)
    rw [← es] at next
    have ej : Go.Lib.join ([l[i].f0, l[i].f1].map Go.Lib.itoa) (⟨#[62]⟩ : ByteArray).data.toList = runTx l[i] := by
      rw [List.map_cons, Go.Lib.join_cons]
      simp [Go.Lib.joinTail, runTx]
    simp only [impl_RunnersText.l0]
    rw [if_pos (by omega), if_pos (by omega), if_pos (by omega), er, impl_joinNumbers_eq [l[i].f0, l[i].f1] (⟨#[62]⟩ : ByteArray) (by simp) (by
      intro x hx2
      simp only [List.mem_cons, List.not_mem_nil, or_false] at hx2
      rcases hx2 with rfl | rfl <;> omega) (by show 1 ≤ 1000; omega) k (by omega), ej]
    simp only [Option.bind_some]
    rw [hlen, if_pos (by omega), e1]
    exact next
theorem impl_RunnersText_yes (l : List S50) (h : areRun 1000 l) (k : Nat) (hk : 2000 < k) : impl_RunnersText.f k l = some (tx (runsTx l), true) := by
  have hl := h.2.1
  have := runText_l0 1000 l h l.length k 0 (by omega) (by omega)
  rw [List.take_zero, List.map_nil, List.nil_append] at this
  unfold impl_RunnersText.f
  rw [impl_AreRunners_eq, decide_eq_true h]
  simp only [Option.bind_some, if_true]
  rw [if_pos (by omega), if_pos (by omega), Int.toNat_natCast]
  exact this
theorem impl_RunnersText_no (l : List S50) (h : ¬ areRun 1000 l) (k : Nat) : impl_RunnersText.f k l = some (tx [], false) := by
  unfold impl_RunnersText.f
  rw [impl_AreRunners_eq, decide_eq_false h]
  rfl

theorem laws_eqRunnerS_l0 (l : List S50) (hl : l.length ≤ 1000000000) (d : Nat) : ∀ (k i : Nat), i + d = l.length → d < k → laws_eqRunnerS.l0 k l l (i : Int) = some true := by
  induction d with
  | zero =>
    intro k i hi hk
    obtain ⟨k, rfl⟩ : ∃ m, k = m + 1 := ⟨k - 1, by omega⟩
    simp only [laws_eqRunnerS.l0]
    rw [if_neg (by omega)]
  | succ d ih =>
    intro k i hi hk
    obtain ⟨k, rfl⟩ : ∃ m, k = m + 1 := ⟨k - 1, by omega⟩
    have e1 : wrap64 ((i : Int) + 1) = ((i + 1 : Nat) : Int) := by rw [w64 (by omega)]; rfl
    simp only [laws_eqRunnerS.l0, laws_eqRunner.f, if_true, Option.bind_some]
    rw [if_pos (by omega), if_pos (by omega), if_pos (by omega), e1]
    exact ih k (i + 1) (by omega) (by omega)
theorem laws_eqRunnerS_eq (l : List S50) (hl : l.length ≤ 1000000000) (k : Nat) (hk : l.length < k) : laws_eqRunnerS.f k l l = some true := by
  unfold laws_eqRunnerS.f
  rw [if_pos rfl]
  exact laws_eqRunnerS_l0 l hl l.length k 0 (by omega) hk

theorem spec_trList_eq (a : Int) (l : List S50) (hl : l.length ≤ 1000000000) (k : Nat) (hk : l.length < k) : spec_trList.f k a l = some (decide (areRun a l)) := by
  obtain ⟨b, h1, h2⟩ := spec_trList_iff a l hl k hk
  rw [h1]
  congr 1
  rw [Bool.eq_iff_iff, decide_eq_true_eq, h2]
  unfold areRun
  constructor
  · rintro ⟨y, z⟩
    have ⟨q, hq⟩ : ∃ q, q ∈ l := List.exists_mem_of_length_pos (by omega)
    exact ⟨(z q hq).1, y, fun q hq => (z q hq).2⟩
  · rintro ⟨x, y, z⟩
    exact ⟨y, fun q hq => ⟨x, z q hq⟩⟩
theorem spec_RunnersText_yes (l : List S50) (h : areRun 1000 l) (k : Nat) (hk : 1000010 < k) : spec_RunnersText.f k l = some (tx (runsTx l), true) := by
  have hl := h.2.1
  unfold spec_RunnersText.f
  rw [spec_trList_eq 1000 l (by omega) k (by omega), decide_eq_true h]
  simp only [Option.bind_some, if_true]
  rw [spec_trText_eq 1000 l h k hk]
  rfl
theorem spec_RunnersText_no (l : List S50) (hl : l.length ≤ 1000000000) (h : ¬ areRun 1000 l) (k : Nat) (hk : l.length < k) : spec_RunnersText.f k l = some (tx [], false) := by
  unfold spec_RunnersText.f
  rw [spec_trList_eq 1000 l hl k hk, decide_eq_false h]
  rfl
theorem holds (l : List S52) (hm : l.length ≤ 9223372036854775807) : ∃ k, laws_FnExactRunnersText.f k l = some true := by
  by_cases hb : 1048576 < l.length
  · exact ⟨0, by simp [laws_FnExactRunnersText.f, laws_szRunnerS_eq l hm, hb]⟩
  · obtain ⟨k, hk⟩ : ∃ k : Nat, 1048577 < k := ⟨1048578, by decide⟩
    refine ⟨k + 1, ?_⟩
    have hc : (conv l).length = l.length := conv_length l
    have h4 : ¬ (1048576 - (l.length : Int)) < 0 := by omega
    have e1 := laws_toRunnerS_eq l (by omega) (k + 1) (by omega)
    have e2 := laws_toRunnerS_eq l (by omega) k (by omega)
    have e3 := laws_eqRunnerS_eq (conv l) (by omega) k (by omega)
    by_cases h : areRun 1000 (conv l)
    · have s1 := spec_RunnersText_yes (conv l) h (k + 1) (by omega)
      have s2 := impl_RunnersText_yes (conv l) h (k + 1) (by omega)
      simp only [laws_FnExactRunnersText.f, laws_szRunnerS_eq l hm, hb, if_false, Option.bind_some, h4, e1, s1, s2, if_true, bne_self_eq_false, laws_FnExactRunnersText.j0, Bool.false_eq_true, e2, e3]
    · have s1 := spec_RunnersText_no (conv l) (by omega) h (k + 1) (by omega)
      have s2 := impl_RunnersText_no (conv l) h (k + 1)
      simp only [laws_FnExactRunnersText.f, laws_szRunnerS_eq l hm, hb, if_false, Option.bind_some, h4, e1, s1, s2, if_true, bne_self_eq_false, laws_FnExactRunnersText.j0, Bool.false_eq_true, e2, e3]

end Go.Proofs.YtiokkigigcjnpaaDoor.QFnExactRunnersText
