/- The law FnExactParseChase in plain Lean, over the printed functions: it returns true for every input (no condition). -/
import Derived.Test.YtiokkigigcjnpaaDoorPFnExactParseChasex7
import Derived.OpenShut
namespace Go.Proofs.YtiokkigigcjnpaaDoor.QFnExactParseChase
open Go.RowKit Go.ChangeShapes Go.WideShapes Go.Proofs.YtiokkigigcjnpaaDoor.PFnExactParseChase Go.Proofs.YtiokkigigcjnpaaDoorW.PrintWords Go.Proofs.YtiokkigigcjnpaaDoorW.PrintLast Go.Proofs.YtiokkigigcjnpaaDoorW.PrintMore
set_option linter.unusedVariables false
set_option linter.unusedSimpArgs false
theorem w64 {x : Int} (h : -9223372036854775808 ≤ x ∧ x ≤ 9223372036854775807) : wrap64 x = x := by unfold wrap64; omega
theorem bm {a b A B : Int} (ha : 0 ≤ a ∧ a ≤ A) (hb : 0 ≤ b ∧ b ≤ B) : 0 ≤ a * b ∧ a * b ≤ A * B :=
  ⟨Int.mul_nonneg ha.1 hb.1, Int.mul_le_mul ha.2 hb.2 hb.1 (Int.le_trans ha.1 ha.2)⟩
theorem gcd_step (a b : Int) (ha : 0 ≤ a) (hb : 0 ≤ b) : Int.gcd b (a.tmod b) = Int.gcd a b := by
  obtain ⟨m, rfl⟩ := Int.eq_ofNat_of_zero_le ha
  obtain ⟨n, rfl⟩ := Int.eq_ofNat_of_zero_le hb
  rw [← Int.ofNat_tmod]
  show Nat.gcd n (m % n) = Nat.gcd m n
  rw [Nat.gcd_comm n, ← Nat.gcd_rec, Nat.gcd_comm]
def lowN (a b : Int) : Int := a / (Int.gcd a b : Int)
def lowD (a b : Int) : Int := b / (Int.gcd a b : Int)
theorem gpos {a b : Int} (hb : 0 < b) : 0 < (Int.gcd a b : Int) := by
  have := Int.gcd_pos_of_ne_zero_right a (show b ≠ 0 by omega)
  omega
theorem gle {a b : Int} (hb : 0 < b) : (Int.gcd a b : Int) ≤ b := Int.le_of_dvd hb (Int.gcd_dvd_right a b)
theorem tdiv_gcd_l (a b : Int) : a.tdiv (Int.gcd a b) = lowN a b := by
  unfold lowN
  exact (Int.tdiv_eq_ediv_of_dvd (Int.gcd_dvd_left a b))
theorem tdiv_gcd_r (a b : Int) : b.tdiv (Int.gcd a b) = lowD a b := by
  unfold lowD
  exact (Int.tdiv_eq_ediv_of_dvd (Int.gcd_dvd_right a b))
theorem low_range {a b M : Int} (hb : 0 < b) (ha : -M ≤ a ∧ a ≤ M) : -M ≤ lowN a b ∧ lowN a b ≤ M := by
  unfold lowN
  have g := gpos (a := a) hb
  have hM : 0 ≤ M := by omega
  have e := Int.ediv_mul_cancel (Int.gcd_dvd_left a b)
  constructor
  · apply Int.le_ediv_of_mul_le g
    have : -M * (Int.gcd a b : Int) ≤ -M * 1 := Int.mul_le_mul_of_nonpos_left (by omega) (by omega)
    omega
  · rcases Int.le_total 0 a with h | h
    · have := Int.ediv_le_self (Int.gcd a b : Int) h
      omega
    · have := Int.ediv_le_ediv g h
      rw [Int.zero_ediv] at this
      omega
theorem lowD_range {a b : Int} (hb : 0 < b) : 1 ≤ lowD a b ∧ lowD a b ≤ b := by
  unfold lowD
  have g := gpos (a := a) hb
  constructor
  · apply Int.le_ediv_of_mul_le g
    have := gle (a := a) hb
    omega
  · exact Int.ediv_le_self _ (by omega)
theorem bms {a b A B : Int} (ha : -A ≤ a ∧ a ≤ A) (hb : 0 ≤ b ∧ b ≤ B) : -(A * B) ≤ a * b ∧ a * b ≤ A * B := by
  have hA : 0 ≤ A := by omega
  rcases Int.le_total 0 a with h | h
  · have := bm ⟨h, ha.2⟩ hb
    have := Int.mul_nonneg hA (Int.le_trans hb.1 hb.2)
    omega
  · have := bm (a := -a) (A := A) ⟨by omega, by omega⟩ hb
    have e : -a * b = -(a * b) := Int.neg_mul a b
    omega
theorem low_scale (a b c : Int) (hc : 0 < c) : lowN (a * c) (b * c) = lowN a b ∧ lowD (a * c) (b * c) = lowD a b := by
  have e : (Int.gcd (a * c) (b * c) : Int) = (Int.gcd a b : Int) * c := by
    rw [Int.gcd_mul_right]
    have : (c.natAbs : Int) = c := by omega
    rw [Int.natCast_mul, this]
  unfold lowN lowD
  rw [e]
  exact ⟨Int.mul_ediv_mul_of_pos_left a _ hc, Int.mul_ediv_mul_of_pos_left b _ hc⟩
theorem w64b {x B : Int} (h : 0 ≤ x ∧ x ≤ B) (hB : B ≤ 9223372036854775807) : wrap64 x = x := w64 ⟨Int.le_trans (by decide) h.1, Int.le_trans h.2 hB⟩
theorem ad {x y A B : Int} (hx : 0 ≤ x ∧ x ≤ A) (hy : 0 ≤ y ∧ y ≤ B) : 0 ≤ x + y ∧ x + y ≤ A + B := ⟨Int.add_nonneg hx.1 hy.1, Int.add_le_add hx.2 hy.2⟩

theorem spec_l1In_eq (a b c : Int) : spec_l1In.f a b c = some (decide (b ≤ a ∧ a ≤ c)) := by
  unfold spec_l1In.f
  by_cases h : b ≤ a <;> simp [h]

theorem spec_l1Most_eq (a b : Int) : spec_l1Most.f a b = some (if a > b then a else b) := by
  unfold spec_l1Most.f
  split <;> rfl

/-- what a chase is -/
def isCh (a l r d : Int) : Prop := (1 ≤ a ∧ a ≤ 1000) ∧ (0 ≤ l ∧ l ≤ 20) ∧ (0 ≤ r ∧ r ≤ 20) ∧ 0 < l + r ∧ l < d ∧ r < d ∧ d ≤ 20
theorem spec_doGood_no (a l r d : Int) (wd : -9223372036854775808 ≤ d ∧ d ≤ 9223372036854775807) (h : ¬ isCh a l r d) : spec_doGood.f a l r d = some false := by
  unfold isCh at h
  simp only [spec_doGood.f, spec_l1In_eq, spec_l1Most_eq, Option.bind_some]
  by_cases h1 : 1 ≤ a ∧ a ≤ 1000
  · by_cases h2 : 0 ≤ l ∧ l ≤ 20
    · by_cases h3 : 0 ≤ r ∧ r ≤ 20
      · simp only [h1, h2, h3, and_self, decide_true, if_true]
        rw [w64 (by omega)]
        by_cases h4 : l + r > 0
        · rw [if_pos h4, w64 (by split <;> omega)]
          simp only [Option.some.injEq, decide_eq_false_iff_not]
          split <;> omega
        · rw [if_neg h4]
      · simp [h1, h2, h3]
    · simp [h1, h2]
  · simp [h1]
theorem spec_doGood_yes (a l r d : Int) (h : isCh a l r d) : spec_doGood.f a l r d = some true := by
  unfold isCh at h
  obtain ⟨h1, h2, h3, h4, h5, h6, h7⟩ := h
  simp only [spec_doGood.f, spec_l1In_eq, spec_l1Most_eq, Option.bind_some, h1, h2, h3, and_self, decide_true, if_true]
  rw [w64 (by omega), if_pos (show l + r > 0 by omega), w64 (by split <;> omega)]
  simp only [Option.some.injEq, decide_eq_true_eq]
  split <;> omega

/-- a list of bytes as a text -/
def tx (l : List UInt8) : ByteArray := ⟨l.toArray⟩
theorem tx_size (l : List UInt8) : (tx l).size = l.length := by simp [tx, ByteArray.size]
theorem tx_data (l : List UInt8) : (tx l).data.toList = l := by simp [tx]
theorem tx_append (a b : List UInt8) : tx a ++ tx b = tx (a ++ b) := by
  apply ByteArray.ext
  simp [tx, ByteArray.data_append]
theorem tx_of (s : ByteArray) : tx s.data.toList = s := by
  apply ByteArray.ext
  simp [tx]
theorem tx_inj {a b : List UInt8} (h : tx a = tx b) : a = b := by rw [← tx_data a, ← tx_data b, h]
theorem dec_len (n : Nat) : (Go.Lib.decDigits n).length ≤ n + 1 := by
  induction n using Nat.strongRecOn with
  | _ n ih =>
    rw [Go.Lib.decDigits]
    split
    · simp
    · have := ih (n / 10) (by omega)
      simp only [List.length_append, List.length_cons, List.length_nil]
      omega
theorem itoa_nat (n : Nat) : Go.Lib.itoa (n : Int) = Go.Lib.decDigits n := by
  unfold Go.Lib.itoa
  rw [if_neg (by omega), Int.toNat_natCast]
theorem itoa_len (x : Int) (h : 0 ≤ x) : ((Go.Lib.itoa x).length : Int) ≤ x + 1 := by
  obtain ⟨n, rfl⟩ := Int.eq_ofNat_of_zero_le h
  rw [itoa_nat]
  have := dec_len n
  omega
theorem hd_app (l r : List UInt8) (h : l ≠ []) : (l ++ r).head? = l.head? := by
  cases l with
  | nil => exact absurd rfl h
  | cons a l => rfl
theorem snoc_ind {P : List UInt8 → Prop} (h0 : P []) (h1 : ∀ l c, P l → P (l ++ [c])) : ∀ l, P l := by
  have key : ∀ l : List UInt8, P l.reverse := by
    intro l
    induction l with
    | nil => exact h0
    | cons c l ih =>
      rw [List.reverse_cons]
      exact h1 _ _ ih
  intro l
  have := key l.reverse
  rwa [List.reverse_reverse] at this
/-- a text cut at a byte -/
def sp (b : UInt8) : List UInt8 → List (List UInt8)
  | [] => [[]]
  | c :: r => if c = b then [] :: sp b r else match sp b r with
    | [] => [[c]]
    | x :: xs => (c :: x) :: xs
def spA (b : UInt8) (acc : List UInt8) : List UInt8 → List (List UInt8)
  | [] => [acc]
  | c :: r => if c = b then acc :: spA b [] r else spA b (acc ++ [c]) r
theorem sp_ne (b : UInt8) (l : List UInt8) : ∃ x xs, sp b l = x :: xs := by
  cases l with
  | nil => exact ⟨[], [], rfl⟩
  | cons c r =>
    unfold sp
    split
    · exact ⟨[], _, rfl⟩
    · cases sp b r with
      | nil => exact ⟨[c], [], rfl⟩
      | cons x xs => exact ⟨c :: x, xs, rfl⟩
theorem spA_eq (b : UInt8) (l : List UInt8) : ∀ acc x xs, sp b l = x :: xs → spA b acc l = (acc ++ x) :: xs := by
  induction l with
  | nil =>
    intro acc x xs h
    unfold sp at h
    obtain ⟨rfl, rfl⟩ := List.cons.inj h
    simp [spA]
  | cons c r ih =>
    intro acc x xs h
    obtain ⟨y, ys, hy⟩ := sp_ne b r
    unfold sp at h
    unfold spA
    by_cases z : c = b
    · rw [if_pos z] at h ⊢
      obtain ⟨rfl, rfl⟩ := List.cons.inj h
      rw [ih [] y ys hy, hy, List.append_nil, List.nil_append]
    · rw [if_neg z, hy] at h
      rw [if_neg z]
      obtain ⟨rfl, rfl⟩ := List.cons.inj h
      rw [ih (acc ++ [c]) y ys hy, List.append_assoc]
      rfl
theorem spA_nil (b : UInt8) (l : List UInt8) : spA b [] l = sp b l := by
  obtain ⟨x, xs, h⟩ := sp_ne b l
  rw [spA_eq b l [] x xs h, h, List.nil_append]
/-- the pieces, joined again, are the text -/
theorem join_sp (b : UInt8) (l : List UInt8) : Go.Lib.join (sp b l) [b] = l := by
  induction l with
  | nil => rfl
  | cons c r ih =>
    obtain ⟨x, xs, h⟩ := sp_ne b r
    unfold sp
    rw [h] at ih ⊢
    rw [Go.Lib.join_cons] at ih
    by_cases z : c = b
    · rw [if_pos z, Go.Lib.join_cons]
      unfold Go.Lib.joinTail at ih ⊢
      rw [List.map_cons, List.flatten_cons, z, List.nil_append]
      show [b] ++ x ++ _ = _
      rw [List.append_assoc, ih]
      rfl
    · rw [if_neg z]
      show Go.Lib.join ((c :: x) :: xs) [b] = _
      rw [Go.Lib.join_cons, List.cons_append, ih]
theorem sp_len (b : UInt8) (l : List UInt8) : (sp b l).length ≤ l.length + 1 := by
  induction l with
  | nil => exact Nat.le_refl _
  | cons c r ih =>
    obtain ⟨x, xs, h⟩ := sp_ne b r
    unfold sp
    rw [h] at ih ⊢
    split <;> simp only [List.length_cons] at * <;> omega
theorem sp_small (b : UInt8) (l : List UInt8) : ∀ x ∈ sp b l, x.length ≤ l.length := by
  induction l with
  | nil => intro x hx; simp [sp] at hx; subst hx; exact Nat.le_refl _
  | cons c r ih =>
    obtain ⟨y, ys, h⟩ := sp_ne b r
    intro x hx
    unfold sp at hx
    rw [h] at ih hx
    by_cases z : c = b
    · rw [if_pos z] at hx
      rcases List.mem_cons.mp hx with rfl | hx
      · simp
      · have := ih x hx
        simp only [List.length_cons]
        omega
    · rw [if_neg z] at hx
      rcases List.mem_cons.mp hx with rfl | hx
      · have := ih y List.mem_cons_self
        simp only [List.length_cons]
        omega
      · have := ih x (List.mem_cons_of_mem _ hx)
        simp only [List.length_cons]
        omega
theorem splitK_sp (b : UInt8) (l : List UInt8) : Go.Lib.splitK [b] 0 (Go.Lib.count l [b]) l = sp b l := by
  induction l with
  | nil =>
    rw [Go.Lib.count_miss (by simp [Go.Lib.index])]
    rfl
  | cons c r ih =>
    obtain ⟨x, xs, h⟩ := sp_ne b r
    by_cases z : c = b
    · subst z
      have hix : Go.Lib.index (c :: r) [c] = 0 := by rw [Go.Lib.index]; simp [List.isPrefixOf]
      rw [Go.Lib.count_cons_eq, Nat.add_comm 1]
      unfold Go.Lib.splitK sp
      rw [hix, if_pos rfl, ← ih]
      rfl
    · have hp : ([b] : List UInt8).isPrefixOf (c :: r) = false := by simp [List.isPrefixOf, Ne.symm z]
      have hix : Go.Lib.index (c :: r) [b] = if Go.Lib.index r [b] == -1 then -1 else Go.Lib.index r [b] + 1 := by rw [Go.Lib.index, hp]; simp
      rw [Go.Lib.count_cons_ne c b r z]
      unfold sp
      rw [if_neg z, ← ih]
      by_cases hm : Go.Lib.index r [b] = -1
      · rw [Go.Lib.count_miss hm]
        rfl
      · have hge := Go.Lib.index_ge r [b]
        obtain ⟨j, hj⟩ : ∃ j : Nat, Go.Lib.index r [b] = j := ⟨(Go.Lib.index r [b]).toNat, by omega⟩
        have hc : Go.Lib.count r [b] = 1 + Go.Lib.count (r.drop (j + 1)) [b] := by
          have := Go.Lib.count_hit (sub := [b]) (by simp) hj
          simpa using this
        rw [hc, Nat.add_comm 1]
        unfold Go.Lib.splitK
        rw [hix, hj]
        have e1 : ¬ (((j : Nat) : Int) == -1) = true := by intro e; have := beq_iff_eq.1 e; omega
        have e2 : ¬ ((((j : Nat) : Int) + 1) == -1) = true := by intro e; have := beq_iff_eq.1 e; omega
        rw [if_neg e1, if_neg e1, if_neg e2]
        have e3 : (((j : Nat) : Int) + 1).toNat = j + 1 := by omega
        rw [e3, Int.toNat_natCast]
        simp
/-- the value of digits -/
def val (l : List UInt8) : Nat := l.foldl (fun n c => 10 * n + (c.toNat - 48)) 0
def isDig (c : UInt8) : Bool := decide (48 ≤ c.toNat ∧ c.toNat ≤ 57)
/-- the number that a text of at most six digits tells, or -1 -/
def num (l : List UInt8) : Int := if (1 ≤ l.length ∧ l.length ≤ 6) ∧ ¬ (l.head? = some 48 ∧ 1 < l.length) ∧ l.all isDig = true then (val l : Int) else -1
theorem val_snoc (l : List UInt8) (c : UInt8) : val (l ++ [c]) = 10 * val l + (c.toNat - 48) := by
  unfold val
  rw [List.foldl_append]
  rfl
theorem dig_of (d : Nat) (h : d < 10) : (UInt8.ofNat (48 + d)).toNat = 48 + d := by
  rw [UInt8.toNat_ofNat']
  omega
theorem dec_val (n : Nat) : val (Go.Lib.decDigits n) = n ∧ (Go.Lib.decDigits n).all isDig = true := by
  induction n using Nat.strongRecOn with
  | _ n ih =>
    rw [Go.Lib.decDigits]
    split
    · rename_i h
      refine ⟨?_, ?_⟩
      · show 10 * 0 + ((UInt8.ofNat (48 + n)).toNat - 48) = n
        rw [dig_of n h]
        omega
      · simp [isDig, dig_of n h]
        omega
    · rename_i h
      obtain ⟨h1, h2⟩ := ih (n / 10) (by omega)
      refine ⟨?_, ?_⟩
      · rw [val_snoc, h1, dig_of (n % 10) (by omega)]
        omega
      · rw [List.all_append, h2]
        simp [isDig, dig_of (n % 10) (by omega)]
        omega
theorem dec_ne (n : Nat) : Go.Lib.decDigits n ≠ [] := by
  rw [Go.Lib.decDigits]
  split <;> simp
theorem dec_head (n : Nat) (hn : 1 ≤ n) : (Go.Lib.decDigits n).head? ≠ some 48 := by
  induction n using Nat.strongRecOn with
  | _ n ih =>
    rw [Go.Lib.decDigits]
    split
    · rename_i h
      intro e
      have e1 : UInt8.ofNat (48 + n) = 48 := Option.some.inj e
      have := congrArg UInt8.toNat e1
      rw [dig_of n h] at this
      have h48 : (48 : UInt8).toNat = 48 := rfl
      omega
    · rename_i h
      rw [hd_app _ _ (dec_ne _)]
      exact ih (n / 10) (by omega) (by omega)
theorem dec_len6 (n : Nat) : ∀ k : Nat, n < 10 ^ k → 1 ≤ k → (Go.Lib.decDigits n).length ≤ k := by
  induction n using Nat.strongRecOn with
  | _ n ih =>
    intro k hk h1
    rw [Go.Lib.decDigits]
    split
    · simp; omega
    · rename_i h
      obtain ⟨k, rfl⟩ : ∃ q, k = q + 1 := ⟨k - 1, by omega⟩
      rw [Nat.pow_succ] at hk
      have hk0 : 1 ≤ k := by
        rcases Nat.eq_zero_or_pos k with z | z
        · subst z; simp at hk; omega
        · exact z
      have := ih (n / 10) (by omega) k (by omega) hk0
      rw [List.length_append, List.length_singleton]
      omega
/-- a number below a million, in decimal, is read as itself -/
theorem num_dec (n : Nat) (hn : n < 1000000) : num (Go.Lib.decDigits n) = n := by
  obtain ⟨h1, h2⟩ := dec_val n
  have h3 := dec_len6 n 6 (by omega) (by omega)
  have h4 : 1 ≤ (Go.Lib.decDigits n).length := List.length_pos_iff.mpr (dec_ne n)
  have h5 : ¬ ((Go.Lib.decDigits n).head? = some 48 ∧ 1 < (Go.Lib.decDigits n).length) := by
    rintro ⟨e1, e2⟩
    rcases Nat.eq_zero_or_pos n with z | z
    · subst z
      rw [Go.Lib.decDigits_one (by omega)] at e2
      simp at e2
    · exact dec_head n z e1
  unfold num
  rw [if_pos ⟨⟨h4, h3⟩, h5, h2⟩, h1]
theorem val_le (l : List UInt8) : ∀ (hd : l.all isDig = true), val l + 1 ≤ 10 ^ l.length := by
  revert l
  refine snoc_ind ?_ ?_
  · intro _
    simp [val]
  · intro l c ih hd
    rw [List.all_append, Bool.and_eq_true] at hd
    have h1 := ih hd.1
    have h2 : 48 ≤ c.toNat ∧ c.toNat ≤ 57 := by simpa [isDig] using hd.2
    rw [val_snoc, List.length_append, List.length_singleton, Nat.pow_succ]
    omega
/-- digits without a superfluous zero are the decimal of their value -/
theorem dec_of_val (l : List UInt8) : l ≠ [] → l.all isDig = true → ¬ (l.head? = some 48 ∧ 1 < l.length) → Go.Lib.decDigits (val l) = l := by
  revert l
  refine snoc_ind ?_ ?_
  · intro h
    exact absurd rfl h
  · intro l c ih _ hd hz
    rw [List.all_append, Bool.and_eq_true] at hd
    have h2 : 48 ≤ c.toNat ∧ c.toNat ≤ 57 := by simpa [isDig] using hd.2
    have hc : UInt8.ofNat (48 + (c.toNat - 48)) = c := by
      rw [show 48 + (c.toNat - 48) = c.toNat by omega]
      exact UInt8.ofNat_toNat
    by_cases hne : l = []
    · subst hne
      rw [List.nil_append]
      have : val [c] = c.toNat - 48 := by show 10 * 0 + (c.toNat - 48) = _; omega
      rw [this, Go.Lib.decDigits_one (by omega), hc]
    · have hp := List.length_pos_iff.mpr hne
      have hh : l.head? = (l ++ [c]).head? := (hd_app _ _ hne).symm
      have ih2 := ih hne hd.1 (fun h => hz ⟨by rw [← hh]; exact h.1, by rw [List.length_append]; have := h.2; omega⟩)
      have hv : 1 ≤ val l := by
        rcases Nat.eq_zero_or_pos (val l) with z | z
        · rw [z, Go.Lib.decDigits_one (by omega)] at ih2
          exfalso
          refine hz ⟨?_, by rw [List.length_append, List.length_singleton]; omega⟩
          rw [← hh, ← ih2]
          rfl
        · exact z
      rw [val_snoc, Go.Lib.decDigits, dif_neg (by omega)]
      have e1 : (10 * val l + (c.toNat - 48)) / 10 = val l := by omega
      have e2 : (10 * val l + (c.toNat - 48)) % 10 = c.toNat - 48 := by omega
      rw [e1, e2, ih2, hc]
theorem num_yes (l : List UInt8) (h : 0 ≤ num l) : Go.Lib.itoa (num l) = l ∧ num l < 1000000 := by
  unfold num at h ⊢
  by_cases c : (1 ≤ l.length ∧ l.length ≤ 6) ∧ ¬ (l.head? = some 48 ∧ 1 < l.length) ∧ l.all isDig = true
  · rw [if_pos c]
    have h1 := val_le l c.2.2
    have h2 : (10 : Nat) ^ l.length ≤ 10 ^ 6 := Nat.pow_le_pow_right (by omega) c.1.2
    rw [itoa_nat]
    exact ⟨dec_of_val l (fun e => by rw [e] at c; simp at c) c.2.2 c.2.1, by omega⟩
  · rw [if_neg c] at h
    omega
theorem parse_dec (l : List UInt8) (hd : l.all isDig = true) : ∀ acc : Nat, (acc + 1) * 10 ^ l.length ≤ 1000000000000 → Go.Lib.parseUint10 acc l = .ok (l.foldl (fun n c => 10 * n + (c.toNat - 48)) acc) := by
  induction l with
  | nil => intro acc _; rfl
  | cons c r ih =>
    intro acc ha
    rw [List.all_cons, Bool.and_eq_true] at hd
    have h2 : 48 ≤ c.toNat ∧ c.toNat ≤ 57 := by simpa [isDig] using hd.1
    rw [List.length_cons, Nat.pow_succ] at ha
    have hp : 1 ≤ 10 ^ r.length := Nat.one_le_pow _ _ (by omega)
    have hm : (acc + 1) * 10 * 1 ≤ (acc + 1) * 10 * 10 ^ r.length := Nat.mul_le_mul_left _ hp
    have ha2 : (acc + 1) * 10 * 10 ^ r.length ≤ 1000000000000 := by rw [Nat.mul_assoc, Nat.mul_comm 10]; exact ha
    have hs : (acc * 10 + (c.toNat - 48) + 1) * 10 ^ r.length ≤ (acc + 1) * 10 * 10 ^ r.length := Nat.mul_le_mul_right _ (by omega)
    unfold Go.Lib.parseUint10
    rw [if_pos h2, if_neg (by omega), if_neg (by omega), ih hd.2 _ (by omega), List.foldl_cons, Nat.mul_comm acc 10]
theorem atoi_dec (n : Nat) (hn : n < 1000000) : Go.Lib.atoiAll (Go.Lib.decDigits n) = .ok (n : Int) := by
  obtain ⟨h1, h2⟩ := dec_val n
  have h3 := dec_len6 n 6 (by omega) (by omega)
  obtain ⟨c, r, hcr⟩ : ∃ c r, Go.Lib.decDigits n = c :: r := by
    cases h : Go.Lib.decDigits n with
    | nil => exact absurd h (dec_ne n)
    | cons c r => exact ⟨c, r, rfl⟩
  have hp := parse_dec (Go.Lib.decDigits n) h2 0 (by
    have : (10 : Nat) ^ (Go.Lib.decDigits n).length ≤ 10 ^ 6 := Nat.pow_le_pow_right (by omega) h3
    omega)
  have hv : Go.Lib.parseUint10 0 (Go.Lib.decDigits n) = .ok n := by rw [hp]; exact congrArg _ h1
  rw [hcr] at hv h2 ⊢
  rw [List.all_cons, Bool.and_eq_true] at h2
  have hc : 48 ≤ c.toNat ∧ c.toNat ≤ 57 := by simpa [isDig] using h2.1
  unfold Go.Lib.atoiAll
  simp only
  rw [if_neg (by omega)]
  unfold Go.Lib.parseMag
  rw [if_neg (by simp), hv]
  simp only
  rw [if_neg (by omega), if_neg (by omega), if_neg (by omega)]
theorem readN_num (s : ByteArray) (h : 0 ≤ num s.data.toList) : readN s = (num s.data.toList, true) := by
  obtain ⟨h1, h2⟩ := num_yes _ h
  obtain ⟨n, hn⟩ := Int.eq_ofNat_of_zero_le h
  rw [hn] at h1 h2 ⊢
  have ha := atoi_dec n (by omega)
  rw [← itoa_nat, h1] at ha
  unfold readN
  rw [ha]
  simp only
  rw [if_pos h1]
theorem num_readN (s : ByteArray) (v : Int) (h : readN s = (v, true)) (hv : 0 ≤ v ∧ v < 1000000) : num s.data.toList = v := by
  obtain ⟨n, rfl⟩ := Int.eq_ofNat_of_zero_le hv.1
  have key : Go.Lib.itoa (n : Int) = s.data.toList := by
    unfold readN at h
    split at h
    · rename_i w _
      split at h
      · rename_i z
        obtain ⟨rfl, _⟩ := Prod.mk.inj h
        exact z
      · cases (Prod.mk.inj h).2
    · cases (Prod.mk.inj h).2
  rw [← key, itoa_nat]
  exact num_dec n (by omega)
theorem ext_tx (s : ByteArray) (i j : Nat) : s.extract i j = tx ((s.data.toList.drop i).take (j - i)) := by
  apply ByteArray.ext
  rw [ByteArray.data_extract]
  apply Array.toList_inj.mp
  rw [Array.toList_extract, tx_data, List.extract_eq_take_drop]
theorem bt_byte (s : ByteArray) (i : Nat) (h : i < s.data.toList.length) : bt s (i : Int) = (s.data.toList[i].toNat : Int) := by
  have hz : s.data.toList.length = s.size := by rw [Array.length_toList]; rfl
  unfold bt
  rw [dif_pos (by omega)]
  rfl
theorem l1Split_l0 (s : ByteArray) (b : UInt8) (hs : s.data.toList.length ≤ 1048576) (q : Nat) : ∀ (k i f : Nat) (out : List ByteArray), i + q = s.data.toList.length → f ≤ i → out.length ≤ i → q < k →
    spec_l1Split.l0 k s (b.toNat : Int) out (f : Int) (i : Int) = some (out ++ (spA b ((s.data.toList.drop f).take (i - f)) (s.data.toList.drop i)).map tx) := by
  have hz : s.size = s.data.toList.length := by rw [Array.length_toList]; rfl
  induction q with
  | zero =>
    intro k i f out hi hf ho hk
    obtain ⟨k, rfl⟩ : ∃ m, k = m + 1 := ⟨k - 1, by omega⟩
    simp only [spec_l1Split.l0]
    rw [hz, if_neg (by omega), if_pos (by omega), if_pos (by omega), if_pos (by omega), ext_tx, List.drop_of_length_le (show s.data.toList.length ≤ i by omega)]
    have e : i = s.data.toList.length := by omega
    rw [e]
    rfl
  | succ q ih =>
    intro k i f out hi hf ho hk
    obtain ⟨k, rfl⟩ : ∃ m, k = m + 1 := ⟨k - 1, by omega⟩
    have hlt : i < s.data.toList.length := by omega
    have e1 : wrap64 ((i : Int) + 1) = ((i + 1 : Nat) : Int) := by rw [w64 (by omega)]; rfl
    simp only [spec_l1Split.l0]
    rw [hz, if_pos (by omega), if_pos (by omega), bt_byte s i hlt, e1, List.drop_eq_getElem_cons hlt]
    unfold spA
    by_cases z : s.data.toList[i] = b
    · rw [if_pos z, z, if_pos rfl, if_pos (by omega), if_pos (by omega), if_pos (by omega), if_pos (by omega), ext_tx, ih k (i + 1) (i + 1) _ (by omega) (Nat.le_refl _) (by rw [List.length_append, List.length_singleton]; omega) (by omega)]
      rw [Nat.sub_self, List.take_zero, List.map_cons, List.append_assoc]
      rfl
    · have z2 : ¬ ((s.data.toList[i].toNat : Int) = (b.toNat : Int)) := by
        intro e
        exact z (UInt8.toNat_inj.mp (by omega))
      rw [if_neg z, if_neg z2, ih k (i + 1) f out (by omega) (by omega) (by omega) (by omega)]
      have e2 : (s.data.toList.drop f).take (i + 1 - f) = (s.data.toList.drop f).take (i - f) ++ [s.data.toList[i]] := by
        rw [show i + 1 - f = (i - f) + 1 by omega, List.take_add_one, List.getElem?_drop, show f + (i - f) = i by omega, List.getElem?_eq_getElem hlt]
        rfl
      rw [e2]
theorem spec_l1Split_eq (s : ByteArray) (b : UInt8) (hs : s.data.toList.length ≤ 1048576) (k : Nat) (hk : s.data.toList.length < k) : spec_l1Split.f k s (b.toNat : Int) = some ((sp b s.data.toList).map tx) := by
  have := l1Split_l0 s b hs s.data.toList.length k 0 0 [] (by omega) (Nat.le_refl _) (Nat.le_refl _) hk
  unfold spec_l1Split.f
  rw [List.nil_append, Nat.sub_self, List.take_zero, List.drop_zero, spA_nil] at this
  exact this

theorem l1Read_l0 (s : ByteArray) (hs : s.data.toList.length ≤ 6) (q : Nat) : ∀ (k i : Nat), i + q = s.data.toList.length → q < k → (s.data.toList.take i).all isDig = true →
    spec_l1Read.l0 k s (val (s.data.toList.take i) : Int) (i : Int) = some (if s.data.toList.all isDig = true then (val s.data.toList : Int) else -1) := by
  have hz : s.size = s.data.toList.length := by rw [Array.length_toList]; rfl
  induction q with
  | zero =>
    intro k i hi hk hd
    obtain ⟨k, rfl⟩ : ∃ m, k = m + 1 := ⟨k - 1, by omega⟩
    rw [List.take_of_length_le (by omega)] at hd ⊢
    simp only [spec_l1Read.l0]
    rw [hz, if_neg (by omega), if_pos hd]
  | succ q ih =>
    intro k i hi hk hd
    obtain ⟨k, rfl⟩ : ∃ m, k = m + 1 := ⟨k - 1, by omega⟩
    have hlt : i < s.data.toList.length := by omega
    have e1 : wrap64 ((i : Int) + 1) = ((i + 1 : Nat) : Int) := by rw [w64 (by omega)]; rfl
    have et : s.data.toList.take (i + 1) = s.data.toList.take i ++ [s.data.toList[i]] := by rw [List.take_add_one, List.getElem?_eq_getElem hlt]; rfl
    simp only [spec_l1Read.l0]
    rw [hz, if_pos (by omega), if_pos (by omega), bt_byte s i hlt, e1]
    by_cases z : isDig s.data.toList[i] = true
    · have z2 : 48 ≤ s.data.toList[i].toNat ∧ s.data.toList[i].toNat ≤ 57 := by simpa [isDig] using z
      have hv := val_le _ hd
      have hp : (10 : Nat) ^ (s.data.toList.take i).length ≤ 10 ^ 5 := Nat.pow_le_pow_right (by omega) (by rw [List.length_take]; omega)
      have next := ih k (i + 1) (by omega) (by omega) (by rw [et, List.all_append, hd, List.all_cons, z]; rfl)
      rw [et, val_snoc] at next
      generalize val (s.data.toList.take i) = v at *
      generalize s.data.toList[i].toNat = c at *
      have e2 : wrap64 (wrap64 (10 * (v : Int)) + ((c : Int) - 48) % 256) = ((10 * v + (c - 48) : Nat) : Int) := by
        rw [w64 (x := 10 * (v : Int)) (by omega), w64 (by omega)]
        omega
      rw [if_neg (by omega), if_neg (by omega), e2]
      exact next
    · have z3 : ¬ s.data.toList.all isDig = true := by
        intro e
        exact z (List.all_eq_true.mp e _ (List.getElem_mem hlt))
      have z2 : ¬ (48 ≤ s.data.toList[i].toNat ∧ s.data.toList[i].toNat ≤ 57) := by
        intro e
        exact z (by simpa [isDig] using e)
      rw [if_neg z3]
      by_cases y : (s.data.toList[i].toNat : Int) < 48
      · rw [if_pos y]
      · rw [if_neg y, if_pos (by omega)]
theorem spec_l1Read_eq (s : ByteArray) (k : Nat) (hk : 7 < k) : spec_l1Read.f k s = some (num s.data.toList) := by
  have hz : s.size = s.data.toList.length := by rw [Array.length_toList]; rfl
  obtain ⟨k, rfl⟩ : ∃ m, k = m + 1 := ⟨k - 1, by omega⟩
  unfold spec_l1Read.f num
  rw [spec_l1In_eq]
  simp only [Option.bind_some]
  rw [hz]
  by_cases h : 1 ≤ (s.data.toList.length : Int) ∧ (s.data.toList.length : Int) ≤ 6
  · rw [decide_eq_true h, if_pos rfl, if_pos (by omega)]
    have e0 : bt s 0 = (s.data.toList[0].toNat : Int) := bt_byte s 0 (by omega)
    have loop := l1Read_l0 s (by omega) s.data.toList.length k 0 (by omega) (by omega) (by rw [List.take_zero]; rfl)
    have loop2 : spec_l1Read.l0 k s 0 0 = some (if s.data.toList.all isDig = true then (val s.data.toList : Int) else -1) := loop
    have hh : s.data.toList.head? = some s.data.toList[0] := by rw [List.head?_eq_getElem?, List.getElem?_eq_getElem]
    rw [e0, hh]
    by_cases z : s.data.toList[0] = 48
    · rw [z, if_pos (show (((48 : UInt8).toNat : Nat) : Int) = 48 from rfl)]
      simp only [spec_l1Read.j0]
      by_cases y : 1 < s.data.toList.length
      · rw [if_pos (decide_eq_true (by omega)), if_neg (fun e => e.2.1 ⟨trivial, y⟩)]
      · rw [decide_eq_false (by omega), if_neg Bool.false_ne_true, loop2]
        by_cases x : s.data.toList.all isDig = true
        · rw [if_pos x, if_pos ⟨by omega, fun e => y e.2, x⟩]
        · rw [if_neg x, if_neg (fun e => x e.2.2)]
    · have z2 : ¬ (s.data.toList[0].toNat : Int) = 48 := by
        intro e
        exact z (UInt8.toNat_inj.mp (by have : (48 : UInt8).toNat = 48 := rfl; omega))
      rw [if_neg z2]
      simp only [spec_l1Read.j0]
      rw [if_neg Bool.false_ne_true, loop2]
      by_cases x : s.data.toList.all isDig = true
      · rw [if_pos x, if_pos ⟨by omega, fun e => z (Option.some.inj e.1), x⟩]
      · rw [if_neg x, if_neg (fun e => x e.2.2)]
  · rw [decide_eq_false h, if_neg Bool.false_ne_true, if_neg (fun e => h (by have := e.1; omega))]
    simp only [spec_l1Read.j0, if_true]

theorem impl_within_eq (a b c : Int) : impl_within.f a b c = some (decide (b ≤ a ∧ a ≤ c)) := by
  unfold impl_within.f
  by_cases h : b ≤ a <;> simp [h]

theorem impl_IsChase_no (a l r d : Int) (h : ¬ isCh a l r d) : impl_IsChase.f a l r d = some false := by
  unfold isCh at h
  simp only [impl_IsChase.f, impl_within_eq, Option.bind_some]
  by_cases h1 : 1 ≤ a ∧ a ≤ 1000
  · by_cases h2 : 0 ≤ l ∧ l ≤ 20
    · by_cases h3 : 0 ≤ r ∧ r ≤ 20
      · simp only [h1, h2, h3, and_self, decide_true, if_true]
        rw [w64 (by omega)]
        by_cases h4 : l + r > 0
        · rw [if_pos h4]
          by_cases h5 : d > mx l r
          · rw [if_pos h5]
            unfold mx at h5
            simp only [Option.some.injEq, decide_eq_false_iff_not]
            split at h5 <;> omega
          · rw [if_neg h5]
        · rw [if_neg h4]
      · simp [h1, h2, h3]
    · simp [h1, h2]
  · simp [h1]
theorem impl_IsChase_yes (a l r d : Int) (h : isCh a l r d) : impl_IsChase.f a l r d = some true := by
  unfold isCh at h
  obtain ⟨h1, h2, h3, h4, h5, h6, h7⟩ := h
  simp only [impl_IsChase.f, impl_within_eq, Option.bind_some, h1, h2, h3, and_self, decide_true, if_true]
  rw [w64 (by omega), if_pos (show l + r > 0 by omega), if_pos (show d > mx l r by unfold mx; split <;> omega)]
  simp [h7]

/-- what reading numbers off a text's pieces tells -/
def okN (p : List UInt8) : Bool := (readN (tx p)).2
def valN (p : List UInt8) : Int := (readN (tx p)).1
def readNs (b : UInt8) (l : List UInt8) : List Int × Bool := if (sp b l).all okN = true then ((sp b l).map valN, true) else ([], false)
theorem strings_Split_eq (s : ByteArray) (b : UInt8) (hs : s.data.toList.length < 4294967281) : strings_Split.f s (⟨#[b]⟩ : ByteArray) = some ((sp b s.data.toList).map tx) := by
  have hz : s.size = s.data.toList.length := by rw [Array.length_toList]; rfl
  have e := Go.Lib.splitB_data (⟨#[b]⟩ : ByteArray) 0 (Go.Lib.countB s (⟨#[b]⟩ : ByteArray)) s
  have e2 : Go.Lib.splitK (⟨#[b]⟩ : ByteArray).data.toList 0 (Go.Lib.countB s (⟨#[b]⟩ : ByteArray)) s.data.toList = sp b s.data.toList := splitK_sp b s.data.toList
  rw [e2] at e
  unfold strings_Split.f
  rw [if_pos ⟨by omega, Nat.le_refl _⟩, ← e, List.map_map]
  congr 1
  conv => lhs; rw [← List.map_id (Go.Lib.splitB _ _ _ _)]
  exact List.map_congr_left fun x _ => (tx_of x).symm
theorem readNumbers_l0 (ps : List (List UInt8)) (hl : ps.length ≤ 17592186044415) (hp : ∀ p ∈ ps, p.length ≤ 281474976710656) (q : Nat) : ∀ (k i : Nat), i + q = ps.length → q < k →
    impl_readNumbers.l0 k ((ps.take i).map valN) (ps.map tx) ((ps.map tx).length : Int) (i : Int) = some (if (ps.drop i).all okN = true then (ps.map valN, true) else ([], false)) := by
  induction q with
  | zero =>
    intro k i hi hk
    obtain ⟨k, rfl⟩ : ∃ m, k = m + 1 := ⟨k - 1, by omega⟩
    simp only [impl_readNumbers.l0]
    rw [List.length_map, if_neg (by omega), List.take_of_length_le (by omega), List.drop_of_length_le (by omega)]
    rfl
  | succ q ih =>
    intro k i hi hk
    obtain ⟨k, rfl⟩ : ∃ m, k = m + 1 := ⟨k - 1, by omega⟩
    have hlt : i < ps.length := by omega
    have e1 : wrap64 ((i : Int) + 1) = ((i + 1 : Nat) : Int) := by rw [w64 (by omega)]; rfl
    have er : rdOf ByteArray.empty (ps.map tx) (i : Int) = tx ps[i] := by simp [rdOf, hlt]
    have hsz : (tx ps[i]).size ≤ 281474976710656 := by rw [tx_size]; exact hp _ (List.getElem_mem hlt)
    have next := ih k (i + 1) (by omega) (by omega)
    have et : ps.take (i + 1) = ps.take i ++ [ps[i]] := by rw [List.take_add_one, List.getElem?_eq_getElem hlt]; rfl
    rw [et, List.map_append, List.length_map] at next
    simp only [impl_readNumbers.l0, impl_readNumber.f]
    rw [List.length_map, if_pos (by omega), if_pos (by omega), if_pos (by omega), er, if_pos hsz, List.drop_eq_getElem_cons hlt, List.all_cons]
    simp only [Option.bind_some]
    by_cases z : okN ps[i] = true
    · have z2 : (readN (tx ps[i])).2 = true := z
      rw [if_pos z2, if_pos (by rw [List.length_map, List.length_take]; omega), e1, z, Bool.true_and]
      exact next
    · have z2 : ¬ (readN (tx ps[i])).2 = true := z
      rw [if_neg z2, if_neg (by intro e; exact z (Bool.and_eq_true _ _ |>.mp e).1)]
theorem impl_readNumbers_eq (s : ByteArray) (b : UInt8) (hs : s.data.toList.length ≤ 1048576) (k : Nat) (hk : 1048580 < k) : impl_readNumbers.f k s (⟨#[b]⟩ : ByteArray) = some (readNs b s.data.toList) := by
  have hn := sp_len b s.data.toList
  have := readNumbers_l0 (sp b s.data.toList) (by omega) (fun p hp => by have := sp_small b s.data.toList p hp; omega) (sp b s.data.toList).length k 0 (by omega) (by omega)
  unfold impl_readNumbers.f
  rw [strings_Split_eq s b (by omega)]
  exact this
theorem readNs_len (b : UInt8) (l : List UInt8) (h : (readNs b l).2 = true) : (readNs b l).1 = (sp b l).map valN ∧ (sp b l).all okN = true := by
  unfold readNs at h ⊢
  by_cases z : (sp b l).all okN = true
  · rw [if_pos z]
    exact ⟨rfl, z⟩
  · rw [if_neg z] at h
    cases h
/-- a piece told as a number is read as that number -/
theorem ok_of_num (p : List UInt8) (h : 0 ≤ num p) : okN p = true ∧ valN p = num p := by
  have := readN_num (tx p) (by rw [tx_data]; exact h)
  rw [tx_data] at this
  unfold okN valN
  rw [this]
  exact ⟨rfl, rfl⟩
theorem num_of_ok (p : List UInt8) (h : okN p = true) (hv : 0 ≤ valN p ∧ valN p < 1000000) : num p = valN p := by
  have := num_readN (tx p) (valN p) (by unfold okN at h; unfold valN; rw [← h]) hv
  rwa [tx_data] at this
/-- the decimal of a number, as a length -/
theorem piece_len (p : List UInt8) (k : Nat) (hk : 1 ≤ k) (h : 0 ≤ num p ∧ num p < 10 ^ k) : p.length ≤ k := by
  obtain ⟨n, hn⟩ := Int.eq_ofNat_of_zero_le h.1
  obtain ⟨h1, h2⟩ := num_yes p h.1
  rw [hn] at h1 h
  rw [itoa_nat] at h1
  rw [← h1]
  exact dec_len6 n k (by have := h.2; exact_mod_cast this) hk

theorem join4 (a b c d : List UInt8) : (Go.Lib.join [a, b, c, d] [45]).length = a.length + b.length + c.length + d.length + 3 := by
  rw [Go.Lib.join_cons]
  simp [Go.Lib.joinTail]
  omega
theorem num_ge (p : List UInt8) : -1 ≤ num p := by
  unfold num
  split <;> omega
theorem num_range (p : List UInt8) : -1 ≤ num p ∧ num p < 1000000 := by
  by_cases h : 0 ≤ num p
  · have := num_yes p h
    omega
  · have := num_ge p
    omega
instance (a b c d : Int) : Decidable (isCh a b c d) := by unfold isCh; infer_instance
/-- the answer of both -/
def chOf (l : List UInt8) : Int × Int × Int × Int × Bool := match sp 45 l with
  | [a, b, c, d] => if isCh (num a) (num b) (num c) (num d) then (num a, num b, num c, num d, true) else (0, 0, 0, 0, false)
  | _ => (0, 0, 0, 0, false)
theorem chOf_no (l : List UInt8) (h : (sp 45 l).length ≠ 4) : chOf l = (0, 0, 0, 0, false) := by
  unfold chOf
  split
  · rename_i a b c d e
    rw [e] at h
    exact absurd rfl h
  · rfl
theorem chOf_yes (l : List UInt8) (a b c d : List UInt8) (h : sp 45 l = [a, b, c, d]) : chOf l = if isCh (num a) (num b) (num c) (num d) then (num a, num b, num c, num d, true) else (0, 0, 0, 0, false) := by
  unfold chOf
  rw [h]
theorem four {α : Type} (l : List α) (h : l.length = 4) : ∃ a b c d, l = [a, b, c, d] := by
  match l, h with
  | [a, b, c, d], _ => exact ⟨a, b, c, d, rfl⟩
theorem spec_doParse_eq (s : ByteArray) (hs : s.data.toList.length ≤ 1048576) (k : Nat) (hk : 1048590 < k) : spec_doParse.f k s = some (chOf s.data.toList) := by
  have hz : s.size = s.data.toList.length := by rw [Array.length_toList]; rfl
  have e1 := spec_l1Split_eq s 45 hs k (by omega)
  have e45 : ((45 : UInt8).toNat : Int) = 45 := rfl
  rw [e45] at e1
  obtain ⟨k, rfl⟩ : ∃ m, k = m + 1 := ⟨k - 1, by omega⟩
  unfold spec_doParse.f
  rw [e1]
  simp only [Option.bind_some, spec_doParse.j0, List.length_map]
  rw [hz]
  by_cases h4 : (sp 45 s.data.toList).length = 4
  · obtain ⟨a, b, c, d, hq⟩ := four _ h4
    have hj := join_sp 45 s.data.toList
    rw [hq] at hj
    have hlen := join4 a b c d
    rw [hj] at hlen
    rw [chOf_yes _ a b c d hq, hq]
    have ra := num_range a
    have rb := num_range b
    have rc := num_range c
    have rd' := num_range d
    by_cases h : isCh (num a) (num b) (num c) (num d)
    · have g := h
      unfold isCh at g
      have la := piece_len a 4 (by omega) (by omega)
      have lb := piece_len b 2 (by omega) (by omega)
      have lc := piece_len c 2 (by omega) (by omega)
      have ld := piece_len d 2 (by omega) (by omega)
      rw [if_neg (show ¬ ((s.data.toList.length : Int) > 16) by omega), if_pos h]
      have r0 : rdOf ByteArray.empty ([a, b, c, d].map tx) 0 = tx a := rfl
      have r1 : rdOf ByteArray.empty ([a, b, c, d].map tx) 1 = tx b := rfl
      have r2 : rdOf ByteArray.empty ([a, b, c, d].map tx) 2 = tx c := rfl
      have r3 : rdOf ByteArray.empty ([a, b, c, d].map tx) 3 = tx d := rfl
      rw [r0, r1, r2, r3, spec_l1Read_eq _ k (by omega), spec_l1Read_eq _ k (by omega), spec_l1Read_eq _ k (by omega), spec_l1Read_eq _ k (by omega), tx_data, tx_data, tx_data, tx_data]
      simp only [Option.bind_some, spec_doGood_yes _ _ _ _ h]
      rfl
    · rw [if_neg h]
      have r0 : rdOf ByteArray.empty ([a, b, c, d].map tx) 0 = tx a := rfl
      have r1 : rdOf ByteArray.empty ([a, b, c, d].map tx) 1 = tx b := rfl
      have r2 : rdOf ByteArray.empty ([a, b, c, d].map tx) 2 = tx c := rfl
      have r3 : rdOf ByteArray.empty ([a, b, c, d].map tx) 3 = tx d := rfl
      rw [r0, r1, r2, r3, spec_l1Read_eq _ k (by omega), spec_l1Read_eq _ k (by omega), spec_l1Read_eq _ k (by omega), spec_l1Read_eq _ k (by omega), tx_data, tx_data, tx_data, tx_data]
      simp only [Option.bind_some, spec_doGood_no _ _ _ _ (show -9223372036854775808 ≤ num d ∧ num d ≤ 9223372036854775807 by omega) h]
      split <;> rfl
  · rw [chOf_no _ h4]
    have : (((sp 45 s.data.toList).length : Int) != 4) = true := by
      rw [bne_iff_ne]
      omega
    rw [this]
    split <;> rfl
theorem impl_ParseChase_eq (s : ByteArray) (hs : s.data.toList.length ≤ 1048576) (k : Nat) (hk : 1048590 < k) : impl_ParseChase.f k s = some (chOf s.data.toList) := by
  unfold impl_ParseChase.f
  rw [impl_readNumbers_eq s 45 hs k (by omega)]
  simp only [Option.bind_some]
  by_cases h2 : (readNs 45 s.data.toList).2 = true
  · obtain ⟨e1, e2⟩ := readNs_len 45 s.data.toList h2
    rw [if_pos h2, e1, List.length_map]
    by_cases h4 : (sp 45 s.data.toList).length = 4
    · obtain ⟨a, b, c, d, hq⟩ := four _ h4
      rw [chOf_yes _ a b c d hq, hq]
      rw [hq] at e2
      simp only [List.all_cons, List.all_nil, Bool.and_true, Bool.and_eq_true] at e2
      obtain ⟨oa, ob, oc, od⟩ := e2
      have r0 : rd ([a, b, c, d].map valN) 0 = valN a := rfl
      have r1 : rd ([a, b, c, d].map valN) 1 = valN b := rfl
      have r2 : rd ([a, b, c, d].map valN) 2 = valN c := rfl
      have r3 : rd ([a, b, c, d].map valN) 3 = valN d := rfl
      rw [r0, r1, r2, r3]
      simp only [List.length_cons, List.length_nil]
      rw [if_pos (by decide), if_pos (by decide), if_pos (by decide), if_pos (by decide), if_pos (by decide)]
      by_cases h : isCh (num a) (num b) (num c) (num d)
      · have g := h
        unfold isCh at g
        rw [(ok_of_num a (by omega)).2, (ok_of_num b (by omega)).2, (ok_of_num c (by omega)).2, (ok_of_num d (by omega)).2, impl_IsChase_yes _ _ _ _ h, if_pos h]
        rfl
      · have h' : ¬ isCh (valN a) (valN b) (valN c) (valN d) := by
          intro z
          have g := z
          unfold isCh at g
          rw [← num_of_ok a oa (by omega), ← num_of_ok b ob (by omega), ← num_of_ok c oc (by omega), ← num_of_ok d od (by omega)] at z
          exact h z
        rw [impl_IsChase_no _ _ _ _ h', if_neg h]
        rfl
    · rw [if_neg (by omega), chOf_no _ h4]
  · rw [if_neg h2]
    by_cases h4 : (sp 45 s.data.toList).length = 4
    · obtain ⟨a, b, c, d, hq⟩ := four _ h4
      rw [chOf_yes _ a b c d hq, if_neg]
      intro g
      unfold isCh at g
      refine h2 ?_
      unfold readNs
      rw [hq, if_pos]
      simp only [List.all_cons, List.all_nil, Bool.and_true, Bool.and_eq_true]
      exact ⟨(ok_of_num a (by omega)).1, (ok_of_num b (by omega)).1, (ok_of_num c (by omega)).1, (ok_of_num d (by omega)).1⟩
    · rw [chOf_no _ h4]
theorem holds (s : ByteArray) (_ : s.size ≤ 140737488351232) : ∃ k, laws_FnExactParseChase.f k s = some true := by
  have hz : s.size = s.data.toList.length := by rw [Array.length_toList]; rfl
  by_cases hb : (s.size : Int) > 1048576
  · refine ⟨0, ?_⟩
    unfold laws_FnExactParseChase.f
    rw [if_pos hb]
  · refine ⟨1048591, ?_⟩
    unfold laws_FnExactParseChase.f spec_ParseChase.f
    rw [if_neg hb, spec_doParse_eq s (by omega) _ (by omega), impl_ParseChase_eq s (by omega) _ (by omega)]
    simp [laws_eqChase.f]

end Go.Proofs.YtiokkigigcjnpaaDoor.QFnExactParseChase
