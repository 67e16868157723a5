/- The law FnExactChaseText in plain Lean, over the printed functions: it returns true for every input (no condition). -/
import Derived.Test.YtiokkigigcjnpaaDoorPFnExactChaseTextx4
import Derived.OpenShut
namespace Go.Proofs.YtiokkigigcjnpaaDoor.QFnExactChaseText
open Go.RowKit Go.ChangeShapes Go.WideShapes Go.Proofs.YtiokkigigcjnpaaDoor.PFnExactChaseText Go.Proofs.YtiokkigigcjnpaaDoorW.PrintWords Go.Proofs.YtiokkigigcjnpaaDoorW.PrintLast Go.Proofs.YtiokkigigcjnpaaDoorW.PrintMore
set_option linter.unusedVariables false
set_option linter.unusedSimpArgs false
theorem w64 {x : Int} (h : -9223372036854775808 ≤ x ∧ x ≤ 9223372036854775807) : wrap64 x = x := by unfold wrap64; omega
theorem bm {a b A B : Int} (ha : 0 ≤ a ∧ a ≤ A) (hb : 0 ≤ b ∧ b ≤ B) : 0 ≤ a * b ∧ a * b ≤ A * B :=
  ⟨Int.mul_nonneg ha.1 hb.1, Int.mul_le_mul ha.2 hb.2 hb.1 (Int.le_trans ha.1 ha.2)⟩
theorem gcd_step (a b : Int) (ha : 0 ≤ a) (hb : 0 ≤ b) : Int.gcd b (a.tmod b) = Int.gcd a b := by
  obtain ⟨m, rfl⟩ := Int.eq_ofNat_of_zero_le ha
  obtain ⟨n, rfl⟩ := Int.eq_ofNat_of_zero_le hb
  rw [← Int.ofNat_tmod]
  show Nat.gcd n (m % n) = Nat.gcd m n
  rw [Nat.gcd_comm n, ← Nat.gcd_rec, Nat.gcd_comm]
def lowN (a b : Int) : Int := a / (Int.gcd a b : Int)
def lowD (a b : Int) : Int := b / (Int.gcd a b : Int)
theorem gpos {a b : Int} (hb : 0 < b) : 0 < (Int.gcd a b : Int) := by
  have := Int.gcd_pos_of_ne_zero_right a (show b ≠ 0 by omega)
  omega
theorem gle {a b : Int} (hb : 0 < b) : (Int.gcd a b : Int) ≤ b := Int.le_of_dvd hb (Int.gcd_dvd_right a b)
theorem tdiv_gcd_l (a b : Int) : a.tdiv (Int.gcd a b) = lowN a b := by
  unfold lowN
  exact (Int.tdiv_eq_ediv_of_dvd (Int.gcd_dvd_left a b))
theorem tdiv_gcd_r (a b : Int) : b.tdiv (Int.gcd a b) = lowD a b := by
  unfold lowD
  exact (Int.tdiv_eq_ediv_of_dvd (Int.gcd_dvd_right a b))
theorem low_range {a b M : Int} (hb : 0 < b) (ha : -M ≤ a ∧ a ≤ M) : -M ≤ lowN a b ∧ lowN a b ≤ M := by
  unfold lowN
  have g := gpos (a := a) hb
  have hM : 0 ≤ M := by omega
  have e := Int.ediv_mul_cancel (Int.gcd_dvd_left a b)
  constructor
  · apply Int.le_ediv_of_mul_le g
    have : -M * (Int.gcd a b : Int) ≤ -M * 1 := Int.mul_le_mul_of_nonpos_left (by omega) (by omega)
    omega
  · rcases Int.le_total 0 a with h | h
    · have := Int.ediv_le_self (Int.gcd a b : Int) h
      omega
    · have := Int.ediv_le_ediv g h
      rw [Int.zero_ediv] at this
      omega
theorem lowD_range {a b : Int} (hb : 0 < b) : 1 ≤ lowD a b ∧ lowD a b ≤ b := by
  unfold lowD
  have g := gpos (a := a) hb
  constructor
  · apply Int.le_ediv_of_mul_le g
    have := gle (a := a) hb
    omega
  · exact Int.ediv_le_self _ (by omega)
theorem bms {a b A B : Int} (ha : -A ≤ a ∧ a ≤ A) (hb : 0 ≤ b ∧ b ≤ B) : -(A * B) ≤ a * b ∧ a * b ≤ A * B := by
  have hA : 0 ≤ A := by omega
  rcases Int.le_total 0 a with h | h
  · have := bm ⟨h, ha.2⟩ hb
    have := Int.mul_nonneg hA (Int.le_trans hb.1 hb.2)
    omega
  · have := bm (a := -a) (A := A) ⟨by omega, by omega⟩ hb
    have e : -a * b = -(a * b) := Int.neg_mul a b
    omega
theorem low_scale (a b c : Int) (hc : 0 < c) : lowN (a * c) (b * c) = lowN a b ∧ lowD (a * c) (b * c) = lowD a b := by
  have e : (Int.gcd (a * c) (b * c) : Int) = (Int.gcd a b : Int) * c := by
    rw [Int.gcd_mul_right]
    have : (c.natAbs : Int) = c := by omega
    rw [Int.natCast_mul, this]
  unfold lowN lowD
  rw [e]
  exact ⟨Int.mul_ediv_mul_of_pos_left a _ hc, Int.mul_ediv_mul_of_pos_left b _ hc⟩
theorem w64b {x B : Int} (h : 0 ≤ x ∧ x ≤ B) (hB : B ≤ 9223372036854775807) : wrap64 x = x := w64 ⟨Int.le_trans (by decide) h.1, Int.le_trans h.2 hB⟩
theorem ad {x y A B : Int} (hx : 0 ≤ x ∧ x ≤ A) (hy : 0 ≤ y ∧ y ≤ B) : 0 ≤ x + y ∧ x + y ≤ A + B := ⟨Int.add_nonneg hx.1 hy.1, Int.add_le_add hx.2 hy.2⟩

theorem spec_l1In_eq (a b c : Int) : spec_l1In.f a b c = some (decide (b ≤ a ∧ a ≤ c)) := by
  unfold spec_l1In.f
  by_cases h : b ≤ a <;> simp [h]

theorem spec_l1Most_eq (a b : Int) : spec_l1Most.f a b = some (if a > b then a else b) := by
  unfold spec_l1Most.f
  split <;> rfl

/-- what a chase is -/
def isCh (a l r d : Int) : Prop := (1 ≤ a ∧ a ≤ 1000) ∧ (0 ≤ l ∧ l ≤ 20) ∧ (0 ≤ r ∧ r ≤ 20) ∧ 0 < l + r ∧ l < d ∧ r < d ∧ d ≤ 20
theorem spec_doGood_no (a l r d : Int) (wd : -9223372036854775808 ≤ d ∧ d ≤ 9223372036854775807) (h : ¬ isCh a l r d) : spec_doGood.f a l r d = some false := by
  unfold isCh at h
  simp only [spec_doGood.f, spec_l1In_eq, spec_l1Most_eq, Option.bind_some]
  by_cases h1 : 1 ≤ a ∧ a ≤ 1000
  · by_cases h2 : 0 ≤ l ∧ l ≤ 20
    · by_cases h3 : 0 ≤ r ∧ r ≤ 20
      · simp only [h1, h2, h3, and_self, decide_true, if_true]
        rw [w64 (by omega)]
        by_cases h4 : l + r > 0
        · rw [if_pos h4, w64 (by split <;> omega)]
          simp only [Option.some.injEq, decide_eq_false_iff_not]
          split <;> omega
        · rw [if_neg h4]
      · simp [h1, h2, h3]
    · simp [h1, h2]
  · simp [h1]
theorem spec_doGood_yes (a l r d : Int) (h : isCh a l r d) : spec_doGood.f a l r d = some true := by
  unfold isCh at h
  obtain ⟨h1, h2, h3, h4, h5, h6, h7⟩ := h
  simp only [spec_doGood.f, spec_l1In_eq, spec_l1Most_eq, Option.bind_some, h1, h2, h3, and_self, decide_true, if_true]
  rw [w64 (by omega), if_pos (show l + r > 0 by omega), w64 (by split <;> omega)]
  simp only [Option.some.injEq, decide_eq_true_eq]
  split <;> omega

/-- a list of bytes as a text -/
def tx (l : List UInt8) : ByteArray := ⟨l.toArray⟩
theorem tx_size (l : List UInt8) : (tx l).size = l.length := by simp [tx, ByteArray.size]
theorem tx_data (l : List UInt8) : (tx l).data.toList = l := by simp [tx]
theorem tx_append (a b : List UInt8) : tx a ++ tx b = tx (a ++ b) := by
  apply ByteArray.ext
  simp [tx, ByteArray.data_append]
theorem tx_of (s : ByteArray) : tx s.data.toList = s := by
  apply ByteArray.ext
  simp [tx]
theorem tx_inj {a b : List UInt8} (h : tx a = tx b) : a = b := by rw [← tx_data a, ← tx_data b, h]
theorem dec_len (n : Nat) : (Go.Lib.decDigits n).length ≤ n + 1 := by
  induction n using Nat.strongRecOn with
  | _ n ih =>
    rw [Go.Lib.decDigits]
    split
    · simp
    · have := ih (n / 10) (by omega)
      simp only [List.length_append, List.length_cons, List.length_nil]
      omega
theorem itoa_nat (n : Nat) : Go.Lib.itoa (n : Int) = Go.Lib.decDigits n := by
  unfold Go.Lib.itoa
  rw [if_neg (by omega), Int.toNat_natCast]
theorem itoa_len (x : Int) (h : 0 ≤ x) : ((Go.Lib.itoa x).length : Int) ≤ x + 1 := by
  obtain ⟨n, rfl⟩ := Int.eq_ofNat_of_zero_le h
  rw [itoa_nat]
  have := dec_len n
  omega
theorem digit_text (d : Nat) (h : d < 10) : strOfNums [wrap64 (48 + (d : Int)) % 256] = tx [UInt8.ofNat (48 + d)] := by
  rw [w64 (by omega), Int.emod_eq_of_lt (by omega) (by omega)]
  have : (48 + (d : Int)).toNat = 48 + d := by omega
  unfold strOfNums tx
  rw [List.map_cons, List.map_nil, this]
theorem spec_l1Num_nat (n : Nat) : ∀ k : Nat, n ≤ 1000000 → n < k → spec_l1Num.f k (n : Int) = some (tx (Go.Lib.decDigits n)) := by
  induction n using Nat.strongRecOn with
  | _ n ih =>
    intro k hn hk
    obtain ⟨k, rfl⟩ : ∃ m, k = m + 1 := ⟨k - 1, by omega⟩
    rw [Go.Lib.decDigits]
    simp only [spec_l1Num.f]
    by_cases h : n < 10
    · rw [if_pos (by omega), dif_pos h, digit_text n h]
    · have e1 : wrap64 (Int.tdiv (n : Int) 10) = ((n / 10 : Nat) : Int) := by
        rw [Int.tdiv_eq_ediv_of_nonneg (by omega), w64 (by omega)]
        rfl
      have e2 : Int.tmod (n : Int) 10 = ((n % 10 : Nat) : Int) := by
        rw [Int.tmod_eq_emod_of_nonneg (by omega)]
        rfl
      have hl := dec_len (n / 10)
      rw [if_neg (by omega), dif_neg h, e1, ih (n / 10) (by omega) k (by omega) (by omega), e2]
      simp only [Option.bind_some]
      rw [digit_text (n % 10) (by omega), if_pos (by rw [tx_size, tx_size]; simp only [List.length_cons, List.length_nil]; omega), tx_append]
theorem spec_l1Num_eq (x : Int) (h : 0 ≤ x ∧ x ≤ 1000000) (k : Nat) (hk : 1000000 < k) : spec_l1Num.f k x = some (tx (Go.Lib.itoa x)) := by
  obtain ⟨n, rfl⟩ := Int.eq_ofNat_of_zero_le h.1
  rw [itoa_nat]
  exact spec_l1Num_nat n k (by omega) (by omega)

theorem lit_tx (b : UInt8) : (⟨#[b]⟩ : ByteArray) = tx [b] := rfl
theorem spec_doText_eq (a l r d : Int) (h : isCh a l r d) (k : Nat) (hk : 1000000 < k) : spec_doText.f k a l r d = some (tx (Go.Lib.itoa a ++ [45] ++ Go.Lib.itoa l ++ [45] ++ Go.Lib.itoa r ++ [45] ++ Go.Lib.itoa d)) := by
  unfold isCh at h
  have l1 := itoa_len a (by omega)
  have l2 := itoa_len l (by omega)
  have l3 := itoa_len r (by omega)
  have l4 := itoa_len d (by omega)
  unfold spec_doText.f
  rw [spec_l1Num_eq a (by omega) k hk, spec_l1Num_eq l (by omega) k hk, spec_l1Num_eq r (by omega) k hk, spec_l1Num_eq d (by omega) k hk]
  simp only [Option.bind_some, lit_tx, tx_append, tx_size, List.length_append, List.length_cons, List.length_nil]
  rw [if_pos (by omega), if_pos (by omega), if_pos (by omega), if_pos (by omega), if_pos (by omega), if_pos (by omega)]

def chaseTx (a l r d : Int) : ByteArray := tx (Go.Lib.itoa a ++ [45] ++ Go.Lib.itoa l ++ [45] ++ Go.Lib.itoa r ++ [45] ++ Go.Lib.itoa d)
theorem spec_ChaseText_yes (a l r d : Int) (h : isCh a l r d) (k : Nat) (hk : 1000000 < k) : spec_ChaseText.f k a l r d = some (chaseTx a l r d, true) := by
  unfold spec_ChaseText.f
  rw [spec_doGood_yes a l r d h]
  simp only [Option.bind_some, if_true]
  rw [spec_doText_eq a l r d h k hk]
  rfl
theorem spec_ChaseText_no (a l r d : Int) (wd : -9223372036854775808 ≤ d ∧ d ≤ 9223372036854775807) (h : ¬ isCh a l r d) (k : Nat) : spec_ChaseText.f k a l r d = some (tx [], false) := by
  unfold spec_ChaseText.f
  rw [spec_doGood_no a l r d wd h]
  rfl

theorem impl_within_eq (a b c : Int) : impl_within.f a b c = some (decide (b ≤ a ∧ a ≤ c)) := by
  unfold impl_within.f
  by_cases h : b ≤ a <;> simp [h]

theorem impl_IsChase_no (a l r d : Int) (h : ¬ isCh a l r d) : impl_IsChase.f a l r d = some false := by
  unfold isCh at h
  simp only [impl_IsChase.f, impl_within_eq, Option.bind_some]
  by_cases h1 : 1 ≤ a ∧ a ≤ 1000
  · by_cases h2 : 0 ≤ l ∧ l ≤ 20
    · by_cases h3 : 0 ≤ r ∧ r ≤ 20
      · simp only [h1, h2, h3, and_self, decide_true, if_true]
        rw [w64 (by omega)]
        by_cases h4 : l + r > 0
        · rw [if_pos h4]
          by_cases h5 : d > mx l r
          · rw [if_pos h5]
            unfold mx at h5
            simp only [Option.some.injEq, decide_eq_false_iff_not]
            split at h5 <;> omega
          · rw [if_neg h5]
        · rw [if_neg h4]
      · simp [h1, h2, h3]
    · simp [h1, h2]
  · simp [h1]
theorem impl_IsChase_yes (a l r d : Int) (h : isCh a l r d) : impl_IsChase.f a l r d = some true := by
  unfold isCh at h
  obtain ⟨h1, h2, h3, h4, h5, h6, h7⟩ := h
  simp only [impl_IsChase.f, impl_within_eq, Option.bind_some, h1, h2, h3, and_self, decide_true, if_true]
  rw [w64 (by omega), if_pos (show l + r > 0 by omega), if_pos (show d > mx l r by unfold mx; split <;> omega)]
  simp [h7]

theorem join_len (xs : List (List UInt8)) (sep : List UInt8) (M : Nat) (h : ∀ x ∈ xs, x.length ≤ M) : (Go.Lib.join xs sep).length ≤ xs.length * (M + sep.length) := by
  have tail : ∀ ys : List (List UInt8), (∀ x ∈ ys, x.length ≤ M) → (Go.Lib.joinTail sep ys).length ≤ ys.length * (M + sep.length) := by
    intro ys
    induction ys with
    | nil => intro _; simp [Go.Lib.joinTail]
    | cons y r ih =>
      intro hy
      have h1 := hy y List.mem_cons_self
      have h2 := ih (fun x hx => hy x (List.mem_cons_of_mem _ hx))
      unfold Go.Lib.joinTail at *
      rw [List.map_cons, List.flatten_cons, List.length_append, List.length_append, List.length_cons, Nat.succ_mul]
      omega
  cases xs with
  | nil => simp [Go.Lib.join_nil]
  | cons x r =>
    have h1 := h x List.mem_cons_self
    have h2 := tail r (fun y hy => h y (List.mem_cons_of_mem _ hy))
    rw [Go.Lib.join_cons, List.length_append, List.length_cons, Nat.succ_mul]
    omega
theorem strings_Join_eq (xs : List (List UInt8)) (sep : ByteArray) (h : (Go.Lib.join xs sep.data.toList).length ≤ 140737488355328) (hl : xs.length ≤ 140737488355328) : strings_Join.f (xs.map tx) sep = some (tx (Go.Lib.join xs sep.data.toList)) := by
  have e : (xs.map tx).map (·.data.toList) = xs := by
    rw [List.map_map]
    conv => rhs; rw [← List.map_id xs]
    exact List.map_congr_left fun x _ => tx_data x
  unfold strings_Join.f
  rw [e, if_pos ⟨h, by rw [List.length_map]; exact hl⟩]
  rfl
theorem joinNumbers_l0 (l : List Int) (sep : ByteArray) (hl : l.length ≤ 1000) (hb : ∀ x ∈ l, 0 ≤ x ∧ x ≤ 1000000) (hs : sep.size ≤ 1000) (q : Nat) : ∀ (k i : Nat), i + q = l.length → q < k →
    impl_joinNumbers.l0 k sep ((l.take i).map (fun x => tx (Go.Lib.itoa x)) ++ List.replicate q (tx [])) l (l.length : Int) (i : Int) = some (tx (Go.Lib.join (l.map Go.Lib.itoa) sep.data.toList)) := by
  induction q with
  | zero =>
    intro k i hi hk
    obtain ⟨k, rfl⟩ : ∃ m, k = m + 1 := ⟨k - 1, by omega⟩
    have e : ((l.take i).map (fun x => tx (Go.Lib.itoa x)) ++ List.replicate 0 (tx [])) = (l.map Go.Lib.itoa).map tx := by
      rw [List.replicate_zero, List.append_nil, List.take_of_length_le (by omega), List.map_map]
      rfl
    have hj := join_len (l.map Go.Lib.itoa) sep.data.toList 1000001 (by
      intro x hx
      obtain ⟨y, hy, rfl⟩ := List.mem_map.mp hx
      have h1 := hb y hy
      have h2 := itoa_len y h1.1
      omega)
    have hz : sep.data.toList.length = sep.size := by rw [Array.length_toList]; rfl
    rw [List.length_map, hz] at hj
    have hm : l.length * (1000001 + sep.size) ≤ 1000 * 1001001 := Nat.mul_le_mul hl (by omega)
    simp only [impl_joinNumbers.l0]
    rw [if_neg (by omega), e, strings_Join_eq (l.map Go.Lib.itoa) sep (by omega) (by rw [List.length_map]; omega)]
    rfl
  | succ q ih =>
    intro k i hi hk
    obtain ⟨k, rfl⟩ : ∃ m, k = m + 1 := ⟨k - 1, by omega⟩
    have hlt : i < l.length := by omega
    have e1 : wrap64 ((i : Int) + 1) = ((i + 1 : Nat) : Int) := by rw [w64 (by omega)]; rfl
    have er : rd l (i : Int) = l[i] := by simp [rd, hlt]
    have hx := hb l[i] (List.getElem_mem hlt)
    have eI : strconv_Itoa.f l[i] = some (tx (Go.Lib.itoa l[i])) := by
      unfold strconv_Itoa.f
      rw [if_pos (by omega)]
      rfl
    have hlen : ((l.take i).map (fun x => tx (Go.Lib.itoa x)) ++ List.replicate (q + 1) (tx [])).length = l.length := by
      rw [List.length_append, List.length_map, List.length_take, List.length_replicate]
      omega
    have es : ((l.take i).map (fun x => tx (Go.Lib.itoa x)) ++ List.replicate (q + 1) (tx [])).set (i : Int).toNat (tx (Go.Lib.itoa l[i])) = (l.take (i + 1)).map (fun x => tx (Go.Lib.itoa x)) ++ List.replicate q (tx []) := by
      have hi2 : ((l.take i).map (fun x => tx (Go.Lib.itoa x))).length = i := by rw [List.length_map, List.length_take]; omega
      rw [Int.toNat_natCast, List.set_append_right _ _ (by rw [hi2]; exact Nat.le_refl _), hi2, Nat.sub_self, List.replicate_succ, List.set_cons_zero, List.take_add_one, List.getElem?_eq_getElem hlt, List.map_append]
      simp
    have next := ih k (i + 1) (by omega) (by omega)
    rw [← es] at next
    simp only [impl_joinNumbers.l0]
    rw [if_pos (by omega), if_pos (by omega), if_pos (by omega), er, eI]
    simp only [Option.bind_some]
    rw [hlen, if_pos (by omega), e1]
    exact next
theorem impl_joinNumbers_eq (l : List Int) (sep : ByteArray) (hl : l.length ≤ 1000) (hb : ∀ x ∈ l, 0 ≤ x ∧ x ≤ 1000000) (hs : sep.size ≤ 1000) (k : Nat) (hk : 1000 < k) : impl_joinNumbers.f k l sep = some (tx (Go.Lib.join (l.map Go.Lib.itoa) sep.data.toList)) := by
  have := joinNumbers_l0 l sep hl hb hs l.length k 0 (by omega) (by omega)
  rw [List.take_zero, List.map_nil, List.nil_append] at this
  unfold impl_joinNumbers.f
  rw [if_pos (by omega), if_pos (by omega), Int.toNat_natCast]
  exact this

theorem chase_join (a l r d : Int) : Go.Lib.join ([a, l, r, d].map Go.Lib.itoa) (⟨#[45]⟩ : ByteArray).data.toList = Go.Lib.itoa a ++ [45] ++ Go.Lib.itoa l ++ [45] ++ Go.Lib.itoa r ++ [45] ++ Go.Lib.itoa d := by
  rw [List.map_cons, Go.Lib.join_cons]
  simp [Go.Lib.joinTail]
theorem impl_ChaseText_yes (a l r d : Int) (h : isCh a l r d) (k : Nat) (hk : 1000000 < k) : impl_ChaseText.f k a l r d = some (chaseTx a l r d, true) := by
  have g := h
  unfold isCh at g
  unfold impl_ChaseText.f
  rw [impl_IsChase_yes a l r d h]
  simp only [Option.bind_some, if_true]
  rw [impl_joinNumbers_eq [a, l, r, d] _ (by simp) (by
    intro x hx
    simp only [List.mem_cons, List.not_mem_nil, or_false] at hx
    rcases hx with rfl | rfl | rfl | rfl <;> omega) (by show 1 ≤ 1000; omega) k (by omega), chase_join]
  rfl
theorem impl_ChaseText_no (a l r d : Int) (h : ¬ isCh a l r d) (k : Nat) : impl_ChaseText.f k a l r d = some (tx [], false) := by
  unfold impl_ChaseText.f
  rw [impl_IsChase_no a l r d h]
  rfl

theorem holds (a l r d : Int) (_ : (Lit.int .i64 a).wf = true) (_ : (Lit.int .i64 l).wf = true) (_ : (Lit.int .i64 r).wf = true) (wd : (Lit.int .i64 d).wf = true) : ∃ k, laws_FnExactChaseText.f k a l r d = some true := by
  obtain ⟨k, hk⟩ : ∃ k : Nat, 1000000 < k := ⟨1000001, by decide⟩
  refine ⟨k, ?_⟩
  by_cases h : isCh a l r d
  · have e1 := spec_ChaseText_yes a l r d h k hk
    have e2 := impl_ChaseText_yes a l r d h k hk
    simp only [laws_FnExactChaseText.f, laws_toChase.f, Option.bind_some, e1, e2, if_true, bne_self_eq_false, Bool.false_eq_true, if_false]
  · have e1 := spec_ChaseText_no a l r d (bounds_i64 wd) h k
    have e2 := impl_ChaseText_no a l r d h k
    simp only [laws_FnExactChaseText.f, laws_toChase.f, Option.bind_some, e1, e2, if_true, bne_self_eq_false, Bool.false_eq_true, if_false]

end Go.Proofs.YtiokkigigcjnpaaDoor.QFnExactChaseText
