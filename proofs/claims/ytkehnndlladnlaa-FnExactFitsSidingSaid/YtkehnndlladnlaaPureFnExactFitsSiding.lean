/- The law FnExactFitsSiding in plain Lean, over the printed functions: it returns true for every input (no condition). -/
import Derived.Test.YtkehnndlladnlaaPFnExactFitsSidingx2
import Derived.OpenShut
namespace Go.Proofs.Ytkehnndlladnlaa.QFnExactFitsSiding
open Go.RowKit Go.ChangeShapes Go.WideShapes Go.Proofs.Ytkehnndlladnlaa.PFnExactFitsSiding Go.Proofs.YtkehnndlladnlaaW.PrintWords Go.Proofs.YtkehnndlladnlaaW.PrintLast Go.Proofs.YtkehnndlladnlaaW.PrintMore
set_option linter.unusedVariables false
set_option linter.unusedSimpArgs false
theorem w64 {x : Int} (h : -9223372036854775808 ≤ x ∧ x ≤ 9223372036854775807) : wrap64 x = x := by unfold wrap64; omega
theorem bm {a b A B : Int} (ha : 0 ≤ a ∧ a ≤ A) (hb : 0 ≤ b ∧ b ≤ B) : 0 ≤ a * b ∧ a * b ≤ A * B :=
  ⟨Int.mul_nonneg ha.1 hb.1, Int.mul_le_mul ha.2 hb.2 hb.1 (Int.le_trans ha.1 ha.2)⟩
theorem gcd_step (a b : Int) (ha : 0 ≤ a) (hb : 0 ≤ b) : Int.gcd b (a.tmod b) = Int.gcd a b := by
  obtain ⟨m, rfl⟩ := Int.eq_ofNat_of_zero_le ha
  obtain ⟨n, rfl⟩ := Int.eq_ofNat_of_zero_le hb
  rw [← Int.ofNat_tmod]
  show Nat.gcd n (m % n) = Nat.gcd m n
  rw [Nat.gcd_comm n, ← Nat.gcd_rec, Nat.gcd_comm]
def lowN (a b : Int) : Int := a / (Int.gcd a b : Int)
def lowD (a b : Int) : Int := b / (Int.gcd a b : Int)
theorem gpos {a b : Int} (hb : 0 < b) : 0 < (Int.gcd a b : Int) := by
  have := Int.gcd_pos_of_ne_zero_right a (show b ≠ 0 by omega)
  omega
theorem gle {a b : Int} (hb : 0 < b) : (Int.gcd a b : Int) ≤ b := Int.le_of_dvd hb (Int.gcd_dvd_right a b)
theorem tdiv_gcd_l (a b : Int) : a.tdiv (Int.gcd a b) = lowN a b := by
  unfold lowN
  exact (Int.tdiv_eq_ediv_of_dvd (Int.gcd_dvd_left a b))
theorem tdiv_gcd_r (a b : Int) : b.tdiv (Int.gcd a b) = lowD a b := by
  unfold lowD
  exact (Int.tdiv_eq_ediv_of_dvd (Int.gcd_dvd_right a b))
theorem low_range {a b M : Int} (hb : 0 < b) (ha : -M ≤ a ∧ a ≤ M) : -M ≤ lowN a b ∧ lowN a b ≤ M := by
  unfold lowN
  have g := gpos (a := a) hb
  have hM : 0 ≤ M := by omega
  have e := Int.ediv_mul_cancel (Int.gcd_dvd_left a b)
  constructor
  · apply Int.le_ediv_of_mul_le g
    have : -M * (Int.gcd a b : Int) ≤ -M * 1 := Int.mul_le_mul_of_nonpos_left (by omega) (by omega)
    omega
  · rcases Int.le_total 0 a with h | h
    · have := Int.ediv_le_self (Int.gcd a b : Int) h
      omega
    · have := Int.ediv_le_ediv g h
      rw [Int.zero_ediv] at this
      omega
theorem lowD_range {a b : Int} (hb : 0 < b) : 1 ≤ lowD a b ∧ lowD a b ≤ b := by
  unfold lowD
  have g := gpos (a := a) hb
  constructor
  · apply Int.le_ediv_of_mul_le g
    have := gle (a := a) hb
    omega
  · exact Int.ediv_le_self _ (by omega)
theorem bms {a b A B : Int} (ha : -A ≤ a ∧ a ≤ A) (hb : 0 ≤ b ∧ b ≤ B) : -(A * B) ≤ a * b ∧ a * b ≤ A * B := by
  have hA : 0 ≤ A := by omega
  rcases Int.le_total 0 a with h | h
  · have := bm ⟨h, ha.2⟩ hb
    have := Int.mul_nonneg hA (Int.le_trans hb.1 hb.2)
    omega
  · have := bm (a := -a) (A := A) ⟨by omega, by omega⟩ hb
    have e : -a * b = -(a * b) := Int.neg_mul a b
    omega
theorem low_scale (a b c : Int) (hc : 0 < c) : lowN (a * c) (b * c) = lowN a b ∧ lowD (a * c) (b * c) = lowD a b := by
  have e : (Int.gcd (a * c) (b * c) : Int) = (Int.gcd a b : Int) * c := by
    rw [Int.gcd_mul_right]
    have : (c.natAbs : Int) = c := by omega
    rw [Int.natCast_mul, this]
  unfold lowN lowD
  rw [e]
  exact ⟨Int.mul_ediv_mul_of_pos_left a _ hc, Int.mul_ediv_mul_of_pos_left b _ hc⟩
theorem w64b {x B : Int} (h : 0 ≤ x ∧ x ≤ B) (hB : B ≤ 9223372036854775807) : wrap64 x = x := w64 ⟨Int.le_trans (by decide) h.1, Int.le_trans h.2 hB⟩
theorem ad {x y A B : Int} (hx : 0 ≤ x ∧ x ≤ A) (hy : 0 ≤ y ∧ y ≤ B) : 0 ≤ x + y ∧ x + y ≤ A + B := ⟨Int.add_nonneg hx.1 hy.1, Int.add_le_add hx.2 hy.2⟩

theorem laws_szTrainS_eq (l : List S72) (hl : l.length ≤ 9223372036854775807) : laws_szTrainS.f l 1048576 = some (if 1048576 < l.length then -1 else 1048576 - (l.length : Int)) := by
  unfold laws_szTrainS.f
  rw [w64 (by omega)]
  by_cases h : 1048576 < l.length
  · rw [if_pos h, if_pos (by omega)]
  · rw [if_neg h, if_neg (by omega)]

theorem spec_l1In_eq (a b c : Int) : spec_l1In.f a b c = some (decide (b ≤ a ∧ a ≤ c)) := by
  unfold spec_l1In.f
  by_cases h : b ≤ a <;> simp [h]

theorem spec_tiWay_eq (a : Int) : spec_tiWay.f a = some (decide (0 ≤ a ∧ a ≤ 100000)) := by
  simp only [spec_tiWay.f, spec_l1In_eq, Option.bind_some]

theorem spec_tiGood_eq (a b : Int) : spec_tiGood.f a b = some (decide ((1 ≤ a ∧ a ≤ 1000) ∧ (1 ≤ b ∧ b ≤ 100))) := by
  simp only [spec_tiGood.f, spec_l1In_eq, Option.bind_some]
  by_cases h : 1 ≤ a ∧ a ≤ 1000 <;> simp [h]

/-- the list as the program has it -/
def conv (l : List S72) : List S70 := l.map fun x => ⟨x.f0, x.f1⟩
theorem conv_length (l : List S72) : (conv l).length = l.length := by simp [conv]
theorem conv_rd (l : List S72) (i : Nat) (h : i < l.length) : (⟨(rd_T72 l (i : Int)).f0, (rd_T72 l (i : Int)).f1⟩ : S70) = (conv l)[i]'(by rw [conv_length]; exact h) := by
  simp [rd_T72, conv, h]
theorem laws_toTrainS_l0 (l : List S72) (hl : l.length ≤ 1000000000) (d : Nat) : ∀ (k i : Nat), i + d = l.length → d < k →
    laws_toTrainS.l0 k l ((conv l).take i ++ List.replicate d z70) (i : Int) = some (conv l) := by
  induction d with
  | zero =>
    intro k i hi hk
    obtain ⟨k, rfl⟩ : ∃ m, k = m + 1 := ⟨k - 1, by omega⟩
    simp only [laws_toTrainS.l0]
    rw [if_neg (by omega), List.take_of_length_le (by rw [conv_length]; omega)]
    simp
  | succ d ih =>
    intro k i hi hk
    obtain ⟨k, rfl⟩ : ∃ m, k = m + 1 := ⟨k - 1, by omega⟩
    have hlt : i < l.length := by omega
    have hlc : i < (conv l).length := by rw [conv_length]; exact hlt
    have hlen : ((conv l).take i ++ List.replicate (d + 1) z70).length = l.length := by
      rw [List.length_append, List.length_take, List.length_replicate, conv_length]
      omega
    have e1 : wrap64 ((i : Int) + 1) = ((i + 1 : Nat) : Int) := by rw [w64 (by omega)]; rfl
    simp only [laws_toTrainS.l0, laws_toTrain.f, Option.bind_some]
    rw [if_pos (by omega), if_pos (by omega), hlen, if_pos (by omega), e1]
    have es : ((conv l).take i ++ List.replicate (d + 1) z70).set (i : Int).toNat ⟨(rd_T72 l (i : Int)).f0, (rd_T72 l (i : Int)).f1⟩ = (conv l).take (i + 1) ++ List.replicate d z70 := by
      rw [Int.toNat_natCast, conv_rd l i hlt, List.set_append_right _ _ (by rw [List.length_take]; omega), List.length_take, Nat.min_eq_left (by omega), Nat.sub_self, List.replicate_succ, List.set_cons_zero, List.take_succ_eq_append_getElem hlc, List.append_assoc]
      rfl
    rw [es]
    exact ih k (i + 1) (by omega) (by omega)
theorem laws_toTrainS_eq (l : List S72) (hl : l.length ≤ 1000000000) (k : Nat) (hk : l.length < k) : laws_toTrainS.f k l = some (conv l) := by
  unfold laws_toTrainS.f
  rw [if_pos (Int.natCast_nonneg _), if_pos (by rw [Int.toNat_natCast]; omega), Int.toNat_natCast]
  have := laws_toTrainS_l0 l hl l.length k 0 (by omega) hk
  simpa using this

theorem impl_within_eq (a b c : Int) : impl_within.f a b c = some (decide (b ≤ a ∧ a ≤ c)) := by
  unfold impl_within.f
  by_cases h : b ≤ a <;> simp [h]

theorem impl_isRate_eq (a : Int) : impl_isRate.f a = some (decide (1 ≤ a ∧ a ≤ 100)) := by
  simp only [impl_isRate.f, impl_within_eq, Option.bind_some]

theorem impl_IsTrain_eq (a b : Int) : impl_IsTrain.f a b = some (decide ((1 ≤ a ∧ a ≤ 1000) ∧ (1 ≤ b ∧ b ≤ 100))) := by
  simp only [impl_IsTrain.f, impl_within_eq, impl_isRate_eq, Option.bind_some]
  by_cases h : 1 ≤ a ∧ a ≤ 1000 <;> simp [h]

def isTr (x : S70) : Prop := (1 ≤ x.f0 ∧ x.f0 ≤ 1000) ∧ (1 ≤ x.f1 ∧ x.f1 ≤ 100)
instance (x : S70) : Decidable (isTr x) := by unfold isTr; infer_instance
theorem noTrain_eq (x : S70) : noTrain x = !(decide (isTr x)) := by
  unfold noTrain
  rw [impl_IsTrain_eq]
  rfl
def areTr (l : List S70) : Prop := (1 ≤ l.length ∧ l.length ≤ 12) ∧ ∀ x ∈ l, isTr x
instance (l : List S70) : Decidable (areTr l) := by unfold areTr; infer_instance
theorem impl_areTrains_eq (l : List S70) : impl_areTrains.f l = some (decide (areTr l)) := by
  unfold impl_areTrains.f
  rw [impl_within_eq]
  simp only [Option.bind_some]
  by_cases h2 : 1 ≤ (l.length : Int) ∧ (l.length : Int) ≤ 12
  · rw [decide_eq_true h2, if_pos rfl]
    refine congrArg some ?_
    by_cases h3 : ∀ x ∈ l, isTr x
    · have z : areTr l := ⟨by omega, h3⟩
      rw [decide_eq_true z, Bool.not_eq_true', List.any_eq_false]
      intro x hx
      rw [noTrain_eq x]
      simp [h3 x hx]
    · have z : ¬ areTr l := fun y => h3 y.2
      rw [decide_eq_false z, Bool.not_eq_false', List.any_eq_true]
      have ⟨x, hx⟩ := Classical.not_forall.mp h3
      have ⟨hm, hn⟩ := Classical.not_imp.mp hx
      exact ⟨x, hm, by rw [noTrain_eq x]; simp [hn]⟩
  · have z : ¬ areTr l := fun y => h2 (by have := y.1; omega)
    rw [decide_eq_false h2, if_neg Bool.false_ne_true, decide_eq_false z]

theorem impl_isWay_eq (a : Int) : impl_isWay.f a = some (decide (0 ≤ a ∧ a ≤ 100000)) := by
  simp only [impl_isWay.f, impl_within_eq, Option.bind_some]

theorem laws_eqTrainS_l0 (l : List S70) (hl : l.length ≤ 1000000000) (d : Nat) : ∀ (k i : Nat), i + d = l.length → d < k → laws_eqTrainS.l0 k l l (i : Int) = some true := by
  induction d with
  | zero =>
    intro k i hi hk
    obtain ⟨k, rfl⟩ : ∃ m, k = m + 1 := ⟨k - 1, by omega⟩
    simp only [laws_eqTrainS.l0]
    rw [if_neg (by omega)]
  | succ d ih =>
    intro k i hi hk
    obtain ⟨k, rfl⟩ : ∃ m, k = m + 1 := ⟨k - 1, by omega⟩
    have e1 : wrap64 ((i : Int) + 1) = ((i + 1 : Nat) : Int) := by rw [w64 (by omega)]; rfl
    simp only [laws_eqTrainS.l0, laws_eqTrain.f, if_true, Option.bind_some]
    rw [if_pos (by omega), if_pos (by omega), if_pos (by omega), e1]
    exact ih k (i + 1) (by omega) (by omega)
theorem laws_eqTrainS_eq (l : List S70) (hl : l.length ≤ 1000000000) (k : Nat) (hk : l.length < k) : laws_eqTrainS.f k l l = some true := by
  unfold laws_eqTrainS.f
  rw [if_pos rfl]
  exact laws_eqTrainS_l0 l hl l.length k 0 (by omega) hk

theorem spec_tiList_l0 (l : List S70) (hl : l.length ≤ 1000000000) (d : Nat) : ∀ (k i : Nat), i + d = l.length → d < k →
    spec_tiList.l0 k l (l.length : Int) (i : Int) = some (decide (∀ x ∈ l.drop i, isTr x)) := by
  induction d with
  | zero =>
    intro k i hi' hk
    obtain ⟨k, rfl⟩ : ∃ m, k = m + 1 := ⟨k - 1, by omega⟩
    simp only [spec_tiList.l0]
    rw [if_neg (by omega), List.drop_of_length_le (by omega)]
    simp
  | succ d ih =>
    intro k i hi' hk
    obtain ⟨k, rfl⟩ : ∃ m, k = m + 1 := ⟨k - 1, by omega⟩
    have hlt : i < l.length := by omega
    have er : rd_T70 l (i : Int) = l[i] := by simp [rd_T70, hlt]
    simp only [spec_tiList.l0]
    rw [if_pos (by omega), if_pos (by omega), if_pos (by omega), er, spec_tiGood_eq, List.drop_eq_getElem_cons hlt]
    simp only [Option.bind_some]
    have e1 : wrap64 ((i : Int) + 1) = ((i + 1 : Nat) : Int) := by rw [w64 (by omega)]; rfl
    rw [e1, ih k (i + 1) (by omega) (by omega)]
    have e2 : (∀ x ∈ l[i] :: l.drop (i + 1), isTr x) ↔ (isTr l[i] ∧ ∀ x ∈ l.drop (i + 1), isTr x) := List.forall_mem_cons
    by_cases h : (1 ≤ l[i].f0 ∧ l[i].f0 ≤ 1000) ∧ (1 ≤ l[i].f1 ∧ l[i].f1 ≤ 100)
    · rw [decide_eq_true h, if_pos rfl]
      exact congrArg some (decide_eq_decide.mpr (e2.trans ⟨fun z => z.2, fun z => ⟨h, z⟩⟩).symm)
    · rw [decide_eq_false h, if_neg Bool.false_ne_true]
      exact congrArg some (decide_eq_false (fun z => h (e2.1 z).1)).symm
theorem spec_tiList_eq (l : List S70) (g : Int) (hl : l.length ≤ 1000000000) (k : Nat) (hk : l.length < k) : spec_tiList.f (k + 1) l g = some (decide (areTr l ∧ (0 ≤ g ∧ g ≤ 100000))) := by
  unfold spec_tiList.f
  rw [spec_l1In_eq, spec_tiWay_eq]
  simp only [Option.bind_some, spec_tiList.j0]
  by_cases h : 1 ≤ (l.length : Int) ∧ (l.length : Int) ≤ 12
  · rw [decide_eq_true h, if_pos rfl]
    by_cases hg : 0 ≤ g ∧ g ≤ 100000
    · rw [decide_eq_true hg, Bool.not_true, if_neg Bool.false_ne_true]
      have := spec_tiList_l0 l hl l.length k 0 (by omega) hk
      rw [List.drop_zero] at this
      refine Eq.trans this (congrArg some (decide_eq_decide.mpr ⟨fun z => ⟨⟨by omega, z⟩, hg⟩, fun z => z.1.2⟩))
    · rw [decide_eq_false hg, Bool.not_false, if_pos rfl]
      exact congrArg some (decide_eq_false (fun z => hg z.2)).symm
  · rw [decide_eq_false h, if_neg Bool.false_ne_true, if_pos trivial]
    exact congrArg some (decide_eq_false (fun z => h (by have := z.1.1; omega))).symm
theorem sum_both (l : List S70) (hl : l.length ≤ 1000000000) (g : Int) (d : Nat) : ∀ (k i : Nat) (s : Int), i + d = l.length → d < k →
    ∃ r, (∀ k', k' = k ∨ k' = k + 1 → spec_FitsSiding.l0 k' g s l (l.length : Int) (i : Int) = some r) ∧ impl_FitsSiding.l0 k g s l (l.length : Int) (i : Int) = some r := by
  induction d with
  | zero =>
    intro k i s hi hk
    obtain ⟨k, rfl⟩ : ∃ m, k = m + 1 := ⟨k - 1, by omega⟩
    refine ⟨(decide (s ≤ g), true), ?_, ?_⟩
    · intro k' hk'
      obtain ⟨k', rfl⟩ : ∃ m, k' = m + 1 := ⟨k' - 1, by omega⟩
      simp only [spec_FitsSiding.l0]
      rw [if_neg (by omega)]
    · simp only [impl_FitsSiding.l0]
      rw [if_neg (by omega)]
  | succ d ih =>
    intro k i s hi hk
    obtain ⟨k, rfl⟩ : ∃ m, k = m + 1 := ⟨k - 1, by omega⟩
    have e1 : wrap64 ((i : Int) + 1) = ((i + 1 : Nat) : Int) := by rw [w64 (by omega)]; rfl
    obtain ⟨r, r1, r2⟩ := ih k (i + 1) (wrap64 (s + (rd_T70 l (i : Int)).f0)) (by omega) (by omega)
    refine ⟨r, ?_, ?_⟩
    · intro k' hk'
      obtain ⟨k', rfl⟩ : ∃ m, k' = m + 1 := ⟨k' - 1, by omega⟩
      simp only [spec_FitsSiding.l0]
      rw [if_pos (by omega), if_pos (by omega), if_pos (by omega), e1]
      exact r1 k' (by omega)
    · simp only [impl_FitsSiding.l0]
      rw [if_pos (by omega), if_pos (by omega), if_pos (by omega), e1]
      exact r2
theorem holds (l : List S72) (g : Int) (hm : l.length ≤ 9223372036854775807) (_ : (Lit.int .i64 g).wf = true) : ∃ k, laws_FnExactFitsSiding.f k l g = some true := by
  by_cases hb : 1048576 < l.length
  · exact ⟨0, by simp [laws_FnExactFitsSiding.f, laws_szTrainS_eq l hm, hb]⟩
  · obtain ⟨k, hk⟩ : ∃ k : Nat, 1048577 < k := ⟨1048578, by decide⟩
    refine ⟨k + 1, ?_⟩
    have hc : (conv l).length = l.length := conv_length l
    have h4 : ¬ (1048576 - (l.length : Int)) < 0 := by omega
    have e1 := laws_toTrainS_eq l (by omega) (k + 1) (by omega)
    have e2 := laws_toTrainS_eq l (by omega) k (by omega)
    have e3 := laws_eqTrainS_eq (conv l) (by omega) k (by omega)
    have e4 := spec_tiList_eq (conv l) g (by omega) k (by omega)
    have e5 := impl_areTrains_eq (conv l)
    by_cases h : areTr (conv l)
    · rw [decide_eq_true h] at e5
      by_cases hg : 0 ≤ g ∧ g ≤ 100000
      · rw [decide_eq_true ⟨h, hg⟩] at e4
        obtain ⟨r, r1, r2⟩ := sum_both (conv l) (by omega) g (conv l).length k 0 0 (by omega) (by omega)
        have r3 := r1 (k + 1) (Or.inr rfl)
        change spec_FitsSiding.l0 (k + 1) g 0 (conv l) ((conv l).length : Int) 0 = some r at r3
        change impl_FitsSiding.l0 k g 0 (conv l) ((conv l).length : Int) 0 = some r at r2
        simp [laws_FnExactFitsSiding.f, laws_szTrainS_eq l hm, hb, h4, e1, e2, e3, spec_FitsSiding.f, impl_FitsSiding.f, e4, e5, r2, r3, impl_isWay_eq, hg, impl_FitsSiding.j0, laws_FnExactFitsSiding.j0]
      · rw [decide_eq_false (fun z => hg z.2)] at e4
        have e6 := impl_isWay_eq g
        rw [decide_eq_false hg] at e6
        simp [laws_FnExactFitsSiding.f, laws_szTrainS_eq l hm, hb, h4, e1, e2, e3, spec_FitsSiding.f, impl_FitsSiding.f, e4, e5, e6, impl_FitsSiding.j0, laws_FnExactFitsSiding.j0]
    · rw [decide_eq_false h] at e5
      rw [decide_eq_false (fun z => h z.1)] at e4
      simp [laws_FnExactFitsSiding.f, laws_szTrainS_eq l hm, hb, h4, e1, e2, e3, spec_FitsSiding.f, impl_FitsSiding.f, e4, e5, impl_FitsSiding.j0, laws_FnExactFitsSiding.j0]

end Go.Proofs.Ytkehnndlladnlaa.QFnExactFitsSiding
