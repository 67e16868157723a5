-- Laid by a program of this session's (wip/gen/printp.sh): the functions that the law reaches, each with its walk.
import Derived.Test.YtajlcomankjcjadGreatDoorPFnDogsChasex0
import Derived.Test.YtajlcomankjcjadGreatDoorPFnDogsChasex4
import Derived.Test.YtajlcomankjcjadGreatDoorPFnDogsChasex11
namespace Go.Proofs.YtajlcomankjcjadGreatDoor.PFnDogsChase
open Go.RowKit Go.Proofs.YtajlcomankjcjadGreatDoorW.PrintWords Go.Proofs.YtajlcomankjcjadGreatDoorW.PrintLast Go.Proofs.YtajlcomankjcjadGreatDoorW.PrintMore
attribute [local go_sem] max2_int min2_int max_two min_two max_three min_three max_four min_four   -- for this text's walks alone
set_option linter.unusedVariables false
set_option linter.unusedSimpArgs false

/-! ### spec_l1Cur_spoilt: function 50 -/
mutual
def spec_l1Cur_spoilt.l0 : Nat → ByteArray → ByteArray → Int → List Int → Int → Int → Option (ByteArray × Int × Int)
  | 0, _, _, _, _, _, _ => none
  | k + 1, x1, x2, x7, x1000, x1001, x1002 => if x7 > 0 then (spec_l1Cur_spoilt.j1 k x1 x2 x7 (decide ((x1.size : Int) > 0)) x1000 x1001 x1002) else (spec_l1Cur_spoilt.j1 k x1 x2 x7 false x1000 x1001 x1002)
def spec_l1Cur_spoilt.j1 : Nat → ByteArray → ByteArray → Int → Bool → List Int → Int → Int → Option (ByteArray × Int × Int)
  | 0, _, _, _, _, _, _, _ => none
  | k + 1, x1, x2, x7, x19, x1000, x1001, x1002 => if x19 = true then ((spec_l1Cur_pick.f x1000 x1001 x1002 (x1.size : Int)).bind fun bt430 => ((spec_l1Cur_pick.f x1000 bt430.2.1 bt430.2.2 (x2.size : Int)).bind fun bt433 => (if 0 ≤ bt433.1 then (if bt433.1 < (x2.size : Int) then ((some (([bt x2 bt433.1] : List Int) : List Int)).bind fun y436 => ((spec_l1Cur_pick.f x1000 bt433.2.1 bt433.2.2 3).bind fun bt439 => (if bt439.1 = 0 then (if 0 ≤ bt430.1 then (if bt430.1 ≤ (x1.size : Int) then (if (x1.extract 0 (bt430.1 : Int).toNat).size + (strOfNums y436).size ≤ 9223372036854775807 then (if ((x1.extract 0 (bt430.1 : Int).toNat) ++ (strOfNums y436)).size + (x1.extract (bt430.1 : Int).toNat x1.size).size ≤ 9223372036854775807 then (spec_l1Cur_spoilt.l0 k (((x1.extract 0 (bt430.1 : Int).toNat) ++ (strOfNums y436)) ++ (x1.extract (bt430.1 : Int).toNat x1.size)) x2 (wrap64 (x7 - 1)) x1000 bt439.2.1 bt439.2.2) else (none)) else (none)) else (none)) else (none)) else (if bt439.1 = 1 then (if 0 ≤ bt430.1 then (if bt430.1 ≤ (x1.size : Int) then (if (x1.extract 0 (bt430.1 : Int).toNat).size + (strOfNums y436).size ≤ 9223372036854775807 then (if 0 ≤ (wrap64 (bt430.1 + 1)) then (if (wrap64 (bt430.1 + 1)) ≤ (x1.size : Int) then (if ((x1.extract 0 (bt430.1 : Int).toNat) ++ (strOfNums y436)).size + (x1.extract ((wrap64 (bt430.1 + 1)) : Int).toNat x1.size).size ≤ 9223372036854775807 then (spec_l1Cur_spoilt.l0 k (((x1.extract 0 (bt430.1 : Int).toNat) ++ (strOfNums y436)) ++ (x1.extract ((wrap64 (bt430.1 + 1)) : Int).toNat x1.size)) x2 (wrap64 (x7 - 1)) x1000 bt439.2.1 bt439.2.2) else (none)) else (none)) else (none)) else (none)) else (none)) else (none)) else (if 0 ≤ bt430.1 then (if bt430.1 ≤ (x1.size : Int) then (if 0 ≤ (wrap64 (bt430.1 + 1)) then (if (wrap64 (bt430.1 + 1)) ≤ (x1.size : Int) then (if (x1.extract 0 (bt430.1 : Int).toNat).size + (x1.extract ((wrap64 (bt430.1 + 1)) : Int).toNat x1.size).size ≤ 9223372036854775807 then (spec_l1Cur_spoilt.l0 k ((x1.extract 0 (bt430.1 : Int).toNat) ++ (x1.extract ((wrap64 (bt430.1 + 1)) : Int).toNat x1.size)) x2 (wrap64 (x7 - 1)) x1000 bt439.2.1 bt439.2.2) else (none)) else (none)) else (none)) else (none)) else (none)))))) else (none)) else (none)))) else (some (x1, x1001, x1002))
end
def spec_l1Cur_spoilt.f (k : Nat) (s0_0 : List Int) (s0_1 : Int) (s0_2 : Int) (a1 : ByteArray) (a2 : ByteArray) : Option (ByteArray × Int × Int) := (spec_l1Cur_pick.f s0_0 s0_1 s0_2 2).bind fun bt427 => (spec_l1Cur_spoilt.l0 k a1 a2 (wrap64 (1 + bt427.1)) s0_0 bt427.2.1 bt427.2.2)


set_option maxHeartbeats 8000000 in
set_option maxRecDepth 100000 in
theorem spec_l1Cur_spoilt.calls (k : Nat) (g : Nat) (s0_0 : List Int) (s0_1 : Int) (s0_2 : Int) (a1 : ByteArray) (a2 : ByteArray) (r1 : ByteArray) (r2 : Int) (r3 : Int) (w0 w : World) (hI : IsS55 w0 w g s0_0 s0_1 s0_2) (hB : Below w0.heap.size w0 w) (h : spec_l1Cur_spoilt.f k s0_0 s0_1 s0_2 a1 a2 = some (r1, r2, r3)) :
  Calls Tryz.prog 50 #[.pointer (some ⟨g, 0, none⟩), .string a1, .string a2] w fun e w' => e = .returned (.string r1) ∧ IsS55 w0 w' g s0_0 r2 r3 ∧ Below w0.heap.size w0 w' ∧ KeepBut w w' g none := by
 have HI0 := Aside0.mk hI
 have HK := Aside0.mk (KeepBut.refl w g none)
 have HL := Aside0.mk hB.size
 clear hI
 have HW0 := Aside0.mk hB.size
 have HB := Aside0.mk hB
 clear hB
 have H := h
 unfold spec_l1Cur_spoilt.f at H
 clear h
 replace H := Option.bind_eq_some_iff.mp H
 obtain ⟨⟨t427, t428, t429⟩, A40, H⟩ := H
 (try dsimp only at H)
 have A4 := Aside0.mk A40
 clear A40
 have H' := Aside0.mk H
 clear H
 go_enter Tryz.func50, Tryz.ntmps50
 go_wp2_with (first | (go_at_call 47; (with_reducible refine (spec_l1Cur_pick.calls g s0_0 s0_1 s0_2 2 t427 t428 t429 w0 _ ?side1 ?side2 A4.out).mono ?_); (case side1 => exact is_); (case side2 => exact bx_); rintro e w5 ⟨rfl, hi, hb, hk⟩; have n0_ := Aside0.mk (KeepBut.trans (ke_ (w := w)) hk (.inl rfl)); have n1_ := Aside0.mk (hb); have n2_ := Aside0.mk (hi); clear HK; clear HB; clear HI0; have HK := n0_; have HB := n1_; have HI0 := n2_; clear n0_ n1_ n2_; (try clear hb); (try clear hb2); (try clear hk); (try clear hi)))
 repeat (go_quiet (first | (go_at_call 47; (with_reducible refine (spec_l1Cur_pick.calls g s0_0 s0_1 s0_2 2 t427 t428 t429 w0 _ ?side1 ?side2 A4.out).mono ?_); (case side1 => exact is_); (case side2 => exact bx_); rintro e w5 ⟨rfl, hi, hb, hk⟩; have n0_ := Aside0.mk (KeepBut.trans (ke_ (w := w)) hk (.inl rfl)); have n1_ := Aside0.mk (hb); have n2_ := Aside0.mk (hi); clear HK; clear HB; clear HI0; have HK := n0_; have HB := n1_; have HI0 := n2_; clear n0_ n1_ n2_; (try clear hb); (try clear hb2); (try clear hk); (try clear hi))); try go_wp2_with (first | (go_at_call 47; (with_reducible refine (spec_l1Cur_pick.calls g s0_0 s0_1 s0_2 2 t427 t428 t429 w0 _ ?side1 ?side2 A4.out).mono ?_); (case side1 => exact is_); (case side2 => exact bx_); rintro e w5 ⟨rfl, hi, hb, hk⟩; have n0_ := Aside0.mk (KeepBut.trans (ke_ (w := w)) hk (.inl rfl)); have n1_ := Aside0.mk (hb); have n2_ := Aside0.mk (hi); clear HK; clear HB; clear HI0; have HK := n0_; have HB := n1_; have HI0 := n2_; clear n0_ n1_ n2_; (try clear hb); (try clear hb2); (try clear hk); (try clear hi))))
 go_loopg [1, 7] k (fun kq v1 v7 w' => ∃ (x1_1 : ByteArray) (x7_1 : Int) (x1001_1 : Int) (x1002_1 : Int), v1 = .string x1_1 ∧ v7 = .int .i64 x7_1 ∧ Aside0 (spec_l1Cur_spoilt.l0 kq x1_1 a2 x7_1 s0_0 x1001_1 x1002_1 = some (r1, r2, r3)) ∧ Aside0 (kq ≤ k) ∧ Aside0 (IsS55 w0 w' g s0_0 x1001_1 x1002_1) ∧ Aside0 (KeepBut w w' g none) ∧ Aside0 (Below w0.heap.size w0 w'))
 case atStart => exact ⟨(a1), (wrap64 (1 + t427)), (t428), (t429), (rs_), (rs_), H', ⟨Nat.le_refl _⟩, ⟨is_⟩, ⟨ke_⟩, ⟨bx_⟩⟩
 case round =>
  clear H'
  try clear p2
  try clear c5
  obtain ⟨x1_1, x7_1, x1001_1, x1002_1, rfl, rfl, HA, HK1, HI0, HK, HB⟩ := hrel
  cases gk with
    | zero => exact absurd HA.out (by simp [spec_l1Cur_spoilt.l0])
    | succ k1 =>
   have H := HA.out
   clear HA
   simp only [spec_l1Cur_spoilt.l0] at H
   have HC6 := Aside0.mk H
   clear H
   go_upto_region 2 with (fail)
   repeat (go_quiet (fail); go_upto_region 2 with (fail))
   go_cut [19] (fun v19 wc => ∃ (kq : Nat) (x19_5 : Bool), v19 = .bool x19_5 ∧ Aside0 (spec_l1Cur_spoilt.j1 kq x1_1 a2 x7_1 x19_5 s0_0 x1001_1 x1002_1 = some (r1, r2, r3)) ∧ Aside0 (kq ≤ k1) ∧ Aside0 (IsS55 w0 wc g s0_0 x1001_1 x1002_1) ∧ Aside0 (KeepBut w wc g none) ∧ Aside0 (Below w0.heap.size w0 wc))
   case first =>
    have H := HC6.out
    clear HC6
    by_cases c7 : x7_1 > 0
    ·
     rw [if_pos c7] at H
     have c7b0 : decide (0 < x7_1) = true := decide_eq_true c7
     clear c7
     (first | rw [c7b0] | (simp only [i64_w, i32_w]; rw [c7b0]) | skip)
     have H' := Aside0.mk H
     clear H
     go_wp2
     repeat (go_quiet (fail); try go_wp2)
     go_meet
     case rel => exact ⟨_, (decide ((x1_1.size : Int) > 0)), (rs_), H', ⟨by have := HK1.out; first | omega | exact Nat.le_refl _⟩, ⟨is_⟩, ⟨ke_⟩, ⟨bx_⟩⟩
    ·
     rw [if_neg c7] at H
     have c7b0 : decide (0 < x7_1) = false := decide_eq_false c7
     clear c7
     (first | rw [c7b0] | (simp only [i64_w, i32_w]; rw [c7b0]) | skip)
     have H' := Aside0.mk H
     clear H
     go_wp2
     repeat (go_quiet (fail); try go_wp2)
     go_meet
     case rel => exact ⟨_, (false), (rs_), H', ⟨by have := HK1.out; first | omega | exact Nat.le_refl _⟩, ⟨is_⟩, ⟨ke_⟩, ⟨bx_⟩⟩
   case rest =>
    clear HC6
    try clear p2
    try clear c5
    try clear p6
    try clear c7
    try clear c7b0
    try clear p2
    obtain ⟨kq, x19_5, rfl, HA, HJ5, HI0, HK, HB⟩ := hcut
    cases kq with
        | zero => exact absurd HA.out (by simp [spec_l1Cur_spoilt.j1])
        | succ kj5 =>
     have H := HA.out
     clear HA
     simp only [spec_l1Cur_spoilt.j1] at H
     by_cases c8 : x19_5 = true
     ·
      subst c8
      rw [if_pos rfl] at H
      replace H := Option.bind_eq_some_iff.mp H
      obtain ⟨⟨t430, t431, t432⟩, A90, H⟩ := H
      (try dsimp only at H)
      have A9 := Aside0.mk A90
      clear A90
      replace H := Option.bind_eq_some_iff.mp H
      obtain ⟨⟨t433, t434, t435⟩, A100, H⟩ := H
      (try dsimp only at H)
      have A10 := Aside0.mk A100
      clear A100
      by_cases c11 : 0 ≤ t433
      ·
       rw [if_pos c11] at H
       have c11b0 : decide (0 ≤ t433) = true := decide_eq_true c11
       clear c11
       by_cases c12 : t433 < (a2.size : Int)
       ·
        rw [if_pos c12] at H
        have c12b0 : decide (t433 < (a2.size : Int)) = true := decide_eq_true c12
        clear c12
        obtain ⟨y436, hy436⟩ : ∃ y_ : List Int, y_ = (([bt a2 t433] : List Int)) := ⟨_, rfl⟩
        replace H : ((spec_l1Cur_pick.f s0_0 t434 t435 3).bind fun bt439 => (if bt439.1 = 0 then (if 0 ≤ t430 then (if t430 ≤ (x1_1.size : Int) then (if (x1_1.extract 0 (t430 : Int).toNat).size + (strOfNums y436).size ≤ 9223372036854775807 then (if ((x1_1.extract 0 (t430 : Int).toNat) ++ (strOfNums y436)).size + (x1_1.extract (t430 : Int).toNat x1_1.size).size ≤ 9223372036854775807 then (spec_l1Cur_spoilt.l0 kj5 (((x1_1.extract 0 (t430 : Int).toNat) ++ (strOfNums y436)) ++ (x1_1.extract (t430 : Int).toNat x1_1.size)) a2 (wrap64 (x7_1 - 1)) s0_0 bt439.2.1 bt439.2.2) else (none)) else (none)) else (none)) else (none)) else (if bt439.1 = 1 then (if 0 ≤ t430 then (if t430 ≤ (x1_1.size : Int) then (if (x1_1.extract 0 (t430 : Int).toNat).size + (strOfNums y436).size ≤ 9223372036854775807 then (if 0 ≤ (wrap64 (t430 + 1)) then (if (wrap64 (t430 + 1)) ≤ (x1_1.size : Int) then (if ((x1_1.extract 0 (t430 : Int).toNat) ++ (strOfNums y436)).size + (x1_1.extract ((wrap64 (t430 + 1)) : Int).toNat x1_1.size).size ≤ 9223372036854775807 then (spec_l1Cur_spoilt.l0 kj5 (((x1_1.extract 0 (t430 : Int).toNat) ++ (strOfNums y436)) ++ (x1_1.extract ((wrap64 (t430 + 1)) : Int).toNat x1_1.size)) a2 (wrap64 (x7_1 - 1)) s0_0 bt439.2.1 bt439.2.2) else (none)) else (none)) else (none)) else (none)) else (none)) else (none)) else (if 0 ≤ t430 then (if t430 ≤ (x1_1.size : Int) then (if 0 ≤ (wrap64 (t430 + 1)) then (if (wrap64 (t430 + 1)) ≤ (x1_1.size : Int) then (if (x1_1.extract 0 (t430 : Int).toNat).size + (x1_1.extract ((wrap64 (t430 + 1)) : Int).toNat x1_1.size).size ≤ 9223372036854775807 then (spec_l1Cur_spoilt.l0 kj5 ((x1_1.extract 0 (t430 : Int).toNat) ++ (x1_1.extract ((wrap64 (t430 + 1)) : Int).toNat x1_1.size)) a2 (wrap64 (x7_1 - 1)) s0_0 bt439.2.1 bt439.2.2) else (none)) else (none)) else (none)) else (none)) else (none))))) = some (r1, r2, r3) := by first | (rw [hy436]; with_reducible exact H) | (have H2_ := (Option.bind_some _ _).symm.trans H; rw [hy436]; with_reducible exact H2_) | (have H2_ := (Option.bind_some _ _).symm.trans H; with_reducible exact H2_) | with_reducible exact H | (rw [hy436]; exact H) | exact H
        have Ny436 := Aside0.mk hy436
        clear hy436
        replace H := Option.bind_eq_some_iff.mp H
        obtain ⟨⟨t439, t440, t441⟩, A140, H⟩ := H
        (try dsimp only at H)
        have A14 := Aside0.mk A140
        clear A140
        by_cases c15 : t439 = 0
        ·
         rw [if_pos c15] at H
         have c15b0 : (t439 == 0) = true := beq_iff_eq.mpr c15
         have c15b1 : (t439 != 0) = false := bne_eq_false_iff_eq.mpr c15
         clear c15
         by_cases c16 : 0 ≤ t430
         ·
          rw [if_pos c16] at H
          have c16b0 := eq_true c16
          have c16b1 : decide (0 ≤ t430) = true := decide_eq_true c16
          clear c16
          by_cases c17 : t430 ≤ (x1_1.size : Int)
          ·
           rw [if_pos c17] at H
           have c17b0 := eq_true c17
           have c17b1 : decide (t430 ≤ (x1_1.size : Int)) = true := decide_eq_true c17
           clear c17
           by_cases c18 : (x1_1.extract 0 (t430 : Int).toNat).size + (strOfNums y436).size ≤ 9223372036854775807
           ·
            rw [if_pos c18] at H
            have c18b0 := eq_true c18
            have c18b1 : decide ((x1_1.extract 0 (t430 : Int).toNat).size + (strOfNums y436).size ≤ 9223372036854775807) = true := decide_eq_true c18
            try have c18b2 : (9223372036854775807 < (x1_1.extract 0 (t430 : Int).toNat).size + (strOfNums y436).size) = False := eq_false (Nat.not_lt.2 c18)
            have c19b0 := eq_true (of_decide_eq_true (by first | (with_reducible assumption) | assumption) : 0 ≤ t430)
            have c20b0 := eq_true (of_decide_eq_true (by first | (with_reducible assumption) | assumption) : t430 ≤ (x1_1.size : Int))
            by_cases c21 : ((x1_1.extract 0 (t430 : Int).toNat) ++ (strOfNums y436)).size + (x1_1.extract (t430 : Int).toNat x1_1.size).size ≤ 9223372036854775807
            ·
             rw [if_pos c21] at H
             have c21b0 := eq_true c21
             have c21b1 : decide (((x1_1.extract 0 (t430 : Int).toNat) ++ (strOfNums y436)).size + (x1_1.extract (t430 : Int).toNat x1_1.size).size ≤ 9223372036854775807) = true := decide_eq_true c21
             try have c21b2 : (9223372036854775807 < ((x1_1.extract 0 (t430 : Int).toNat) ++ (strOfNums y436)).size + (x1_1.extract (t430 : Int).toNat x1_1.size).size) = False := eq_false (Nat.not_lt.2 c21)
             (try (have c21b3 := c21b2; simp only [ByteArray.size_append] at c21b3))
             have H' := Aside0.mk H
             clear H
             go_wp2_with (first | (go_at_call 47; (with_reducible refine (spec_l1Cur_pick.calls g s0_0 x1001_1 x1002_1 (x1_1.size : Int) t430 t431 t432 w0 _ ?side1 ?side2 A9.out).mono ?_); (case side1 => exact is_); (case side2 => exact bx_); rintro e w22 ⟨rfl, hi, hb, hk⟩; have n0_ := Aside0.mk (KeepBut.trans (ke_ (w := w)) hk (.inl rfl)); have n1_ := Aside0.mk (hb); have n2_ := Aside0.mk (hi); clear HK; clear HB; clear HI0; have HK := n0_; have HB := n1_; have HI0 := n2_; clear n0_ n1_ n2_; (try clear hb); (try clear hb2); (try clear hk); (try clear hi)) | (go_at_call 47; (with_reducible refine (spec_l1Cur_pick.calls g s0_0 t431 t432 (a2.size : Int) t433 t434 t435 w0 _ ?side1 ?side2 A10.out).mono ?_); (case side1 => exact is_); (case side2 => exact bx_); rintro e w23 ⟨rfl, hi, hb, hk⟩; have n0_ := Aside0.mk (KeepBut.trans (ke_ (w := w)) hk (.inl rfl)); have n1_ := Aside0.mk (hb); have n2_ := Aside0.mk (hi); clear HK; clear HB; clear HI0; have HK := n0_; have HB := n1_; have HI0 := n2_; clear n0_ n1_ n2_; (try clear hb); (try clear hb2); (try clear hk); (try clear hi); have p13 : 0 ≤ (t433 : Int) := of_decide_eq_true (by first | (with_reducible assumption) | assumption); have q13 : t433 < (a2.size : Int) := of_decide_eq_true (by first | (with_reducible assumption) | assumption); have hx13 := bt_at a2 t433; replace p13 := eq_true p13; replace q13 := eq_true q13) | ((with_reducible refine gate_dst (N := 32) rfl ?_); (try (refine gate_guard (by rfl) ?_; dsimp only)); refine Kd.R_lit (Kd.int .u8) _ 5 ?hg (N := 32) ?hd (xs := ([bt a2 t433] : List Int)) (inner := [.int .u8 (bt a2 t433)]) (ok := fun _ => True) (okp := fun _ => True) ?hr ?hp (fun _ hk => hk) trivial (Below.refl _ _) (Nat.le_refl _) (by simp) ?_; (case hd => rfl); (case hg => rfl); (case hr => first | (go_simp; done) | (go_simp; rfl)); (case hp => exact (Reps.one (show Kd.M (Kd.int .u8) _ _ _ (bt a2 t433) [.int .u8 (bt a2 t433)] from rfl) (Reps.none _ _))); intro v437 w24 ho25 hb hg_ hnew_; clear hg_ hnew_; (first | rw [← Ny436.out] at ho25 | (simp only [Int.reduceToNat] at ho25; rw [← Ny436.out] at ho25)); have n0_ := Aside0.mk (Kd.R_lower ho25 (keep_size (w := w) (g := g) (row := none) ke_)); have n1_ := Aside0.mk (IsS55.below is_ hb); have n2_ := Aside0.mk (KeepBut.trans (ke_ (w := w)) (KeepBut.of_below hb g none) (.inl rfl)); have n3_ := Aside0.mk (below_step bx_ hb); clear HI0; clear HK; clear HB; have HO438 := n0_; have HI0 := n1_; have HK := n2_; have HB := n3_; clear n0_ n1_ n2_ n3_; clear hb ho25; have hcv26 := own_string (P := Tryz.prog) Tryz.underlying22 Tryz.underlying5 Tryz.underlying9 (Kd.own_of_R HO438.out)) | (go_at_call 47; (with_reducible refine (spec_l1Cur_pick.calls g s0_0 t434 t435 3 t439 t440 t441 w0 _ ?side1 ?side2 A14.out).mono ?_); (case side1 => exact is_); (case side2 => exact bx_); rintro e w27 ⟨rfl, hi, hb, hk⟩; have n0_ := Aside0.mk (Kd.R_mono (Kd.R_keep (IsS55.apart (show IsS55 w0 _ g s0_0 t434 t435 from is_) (by (with_reducible repeat (first | apply Kd.R_alloc | apply Kd.R_drewN | apply Kd.R_drew)); exact HO438.out) (by decide)) hk (fun _ h => h.2)) (fun _ h => h.1)); have n1_ := Aside0.mk (KeepBut.trans (ke_ (w := w)) hk (.inl rfl)); have n2_ := Aside0.mk (hb); have n3_ := Aside0.mk (hi); clear HO438; clear HK; clear HB; clear HI0; have HO438 := n0_; have HK := n1_; have HB := n2_; have HI0 := n3_; clear n0_ n1_ n2_ n3_; (try clear hb); (try clear hb2); (try clear hk); (try clear hi)))
             repeat (go_quiet (first | (go_at_call 47; (with_reducible refine (spec_l1Cur_pick.calls g s0_0 x1001_1 x1002_1 (x1_1.size : Int) t430 t431 t432 w0 _ ?side1 ?side2 A9.out).mono ?_); (case side1 => exact is_); (case side2 => exact bx_); rintro e w22 ⟨rfl, hi, hb, hk⟩; have n0_ := Aside0.mk (KeepBut.trans (ke_ (w := w)) hk (.inl rfl)); have n1_ := Aside0.mk (hb); have n2_ := Aside0.mk (hi); clear HK; clear HB; clear HI0; have HK := n0_; have HB := n1_; have HI0 := n2_; clear n0_ n1_ n2_; (try clear hb); (try clear hb2); (try clear hk); (try clear hi)) | (go_at_call 47; (with_reducible refine (spec_l1Cur_pick.calls g s0_0 t431 t432 (a2.size : Int) t433 t434 t435 w0 _ ?side1 ?side2 A10.out).mono ?_); (case side1 => exact is_); (case side2 => exact bx_); rintro e w23 ⟨rfl, hi, hb, hk⟩; have n0_ := Aside0.mk (KeepBut.trans (ke_ (w := w)) hk (.inl rfl)); have n1_ := Aside0.mk (hb); have n2_ := Aside0.mk (hi); clear HK; clear HB; clear HI0; have HK := n0_; have HB := n1_; have HI0 := n2_; clear n0_ n1_ n2_; (try clear hb); (try clear hb2); (try clear hk); (try clear hi); have p13 : 0 ≤ (t433 : Int) := of_decide_eq_true (by first | (with_reducible assumption) | assumption); have q13 : t433 < (a2.size : Int) := of_decide_eq_true (by first | (with_reducible assumption) | assumption); have hx13 := bt_at a2 t433; replace p13 := eq_true p13; replace q13 := eq_true q13) | ((with_reducible refine gate_dst (N := 32) rfl ?_); (try (refine gate_guard (by rfl) ?_; dsimp only)); refine Kd.R_lit (Kd.int .u8) _ 5 ?hg (N := 32) ?hd (xs := ([bt a2 t433] : List Int)) (inner := [.int .u8 (bt a2 t433)]) (ok := fun _ => True) (okp := fun _ => True) ?hr ?hp (fun _ hk => hk) trivial (Below.refl _ _) (Nat.le_refl _) (by simp) ?_; (case hd => rfl); (case hg => rfl); (case hr => first | (go_simp; done) | (go_simp; rfl)); (case hp => exact (Reps.one (show Kd.M (Kd.int .u8) _ _ _ (bt a2 t433) [.int .u8 (bt a2 t433)] from rfl) (Reps.none _ _))); intro v437 w24 ho25 hb hg_ hnew_; clear hg_ hnew_; (first | rw [← Ny436.out] at ho25 | (simp only [Int.reduceToNat] at ho25; rw [← Ny436.out] at ho25)); have n0_ := Aside0.mk (Kd.R_lower ho25 (keep_size (w := w) (g := g) (row := none) ke_)); have n1_ := Aside0.mk (IsS55.below is_ hb); have n2_ := Aside0.mk (KeepBut.trans (ke_ (w := w)) (KeepBut.of_below hb g none) (.inl rfl)); have n3_ := Aside0.mk (below_step bx_ hb); clear HI0; clear HK; clear HB; have HO438 := n0_; have HI0 := n1_; have HK := n2_; have HB := n3_; clear n0_ n1_ n2_ n3_; clear hb ho25; have hcv26 := own_string (P := Tryz.prog) Tryz.underlying22 Tryz.underlying5 Tryz.underlying9 (Kd.own_of_R HO438.out)) | (go_at_call 47; (with_reducible refine (spec_l1Cur_pick.calls g s0_0 t434 t435 3 t439 t440 t441 w0 _ ?side1 ?side2 A14.out).mono ?_); (case side1 => exact is_); (case side2 => exact bx_); rintro e w27 ⟨rfl, hi, hb, hk⟩; have n0_ := Aside0.mk (Kd.R_mono (Kd.R_keep (IsS55.apart (show IsS55 w0 _ g s0_0 t434 t435 from is_) (by (with_reducible repeat (first | apply Kd.R_alloc | apply Kd.R_drewN | apply Kd.R_drew)); exact HO438.out) (by decide)) hk (fun _ h => h.2)) (fun _ h => h.1)); have n1_ := Aside0.mk (KeepBut.trans (ke_ (w := w)) hk (.inl rfl)); have n2_ := Aside0.mk (hb); have n3_ := Aside0.mk (hi); clear HO438; clear HK; clear HB; clear HI0; have HO438 := n0_; have HK := n1_; have HB := n2_; have HI0 := n3_; clear n0_ n1_ n2_ n3_; (try clear hb); (try clear hb2); (try clear hk); (try clear hi))); try go_wp2_with (first | (go_at_call 47; (with_reducible refine (spec_l1Cur_pick.calls g s0_0 x1001_1 x1002_1 (x1_1.size : Int) t430 t431 t432 w0 _ ?side1 ?side2 A9.out).mono ?_); (case side1 => exact is_); (case side2 => exact bx_); rintro e w22 ⟨rfl, hi, hb, hk⟩; have n0_ := Aside0.mk (KeepBut.trans (ke_ (w := w)) hk (.inl rfl)); have n1_ := Aside0.mk (hb); have n2_ := Aside0.mk (hi); clear HK; clear HB; clear HI0; have HK := n0_; have HB := n1_; have HI0 := n2_; clear n0_ n1_ n2_; (try clear hb); (try clear hb2); (try clear hk); (try clear hi)) | (go_at_call 47; (with_reducible refine (spec_l1Cur_pick.calls g s0_0 t431 t432 (a2.size : Int) t433 t434 t435 w0 _ ?side1 ?side2 A10.out).mono ?_); (case side1 => exact is_); (case side2 => exact bx_); rintro e w23 ⟨rfl, hi, hb, hk⟩; have n0_ := Aside0.mk (KeepBut.trans (ke_ (w := w)) hk (.inl rfl)); have n1_ := Aside0.mk (hb); have n2_ := Aside0.mk (hi); clear HK; clear HB; clear HI0; have HK := n0_; have HB := n1_; have HI0 := n2_; clear n0_ n1_ n2_; (try clear hb); (try clear hb2); (try clear hk); (try clear hi); have p13 : 0 ≤ (t433 : Int) := of_decide_eq_true (by first | (with_reducible assumption) | assumption); have q13 : t433 < (a2.size : Int) := of_decide_eq_true (by first | (with_reducible assumption) | assumption); have hx13 := bt_at a2 t433; replace p13 := eq_true p13; replace q13 := eq_true q13) | ((with_reducible refine gate_dst (N := 32) rfl ?_); (try (refine gate_guard (by rfl) ?_; dsimp only)); refine Kd.R_lit (Kd.int .u8) _ 5 ?hg (N := 32) ?hd (xs := ([bt a2 t433] : List Int)) (inner := [.int .u8 (bt a2 t433)]) (ok := fun _ => True) (okp := fun _ => True) ?hr ?hp (fun _ hk => hk) trivial (Below.refl _ _) (Nat.le_refl _) (by simp) ?_; (case hd => rfl); (case hg => rfl); (case hr => first | (go_simp; done) | (go_simp; rfl)); (case hp => exact (Reps.one (show Kd.M (Kd.int .u8) _ _ _ (bt a2 t433) [.int .u8 (bt a2 t433)] from rfl) (Reps.none _ _))); intro v437 w24 ho25 hb hg_ hnew_; clear hg_ hnew_; (first | rw [← Ny436.out] at ho25 | (simp only [Int.reduceToNat] at ho25; rw [← Ny436.out] at ho25)); have n0_ := Aside0.mk (Kd.R_lower ho25 (keep_size (w := w) (g := g) (row := none) ke_)); have n1_ := Aside0.mk (IsS55.below is_ hb); have n2_ := Aside0.mk (KeepBut.trans (ke_ (w := w)) (KeepBut.of_below hb g none) (.inl rfl)); have n3_ := Aside0.mk (below_step bx_ hb); clear HI0; clear HK; clear HB; have HO438 := n0_; have HI0 := n1_; have HK := n2_; have HB := n3_; clear n0_ n1_ n2_ n3_; clear hb ho25; have hcv26 := own_string (P := Tryz.prog) Tryz.underlying22 Tryz.underlying5 Tryz.underlying9 (Kd.own_of_R HO438.out)) | (go_at_call 47; (with_reducible refine (spec_l1Cur_pick.calls g s0_0 t434 t435 3 t439 t440 t441 w0 _ ?side1 ?side2 A14.out).mono ?_); (case side1 => exact is_); (case side2 => exact bx_); rintro e w27 ⟨rfl, hi, hb, hk⟩; have n0_ := Aside0.mk (Kd.R_mono (Kd.R_keep (IsS55.apart (show IsS55 w0 _ g s0_0 t434 t435 from is_) (by (with_reducible repeat (first | apply Kd.R_alloc | apply Kd.R_drewN | apply Kd.R_drew)); exact HO438.out) (by decide)) hk (fun _ h => h.2)) (fun _ h => h.1)); have n1_ := Aside0.mk (KeepBut.trans (ke_ (w := w)) hk (.inl rfl)); have n2_ := Aside0.mk (hb); have n3_ := Aside0.mk (hi); clear HO438; clear HK; clear HB; clear HI0; have HO438 := n0_; have HK := n1_; have HB := n2_; have HI0 := n3_; clear n0_ n1_ n2_ n3_; (try clear hb); (try clear hb2); (try clear hk); (try clear hi))))
             go_roundg kj5
             case measure => have := HK1.out; have := HJ5.out; omega
             case rel => exact ⟨(((x1_1.extract 0 (t430 : Int).toNat) ++ (strOfNums y436)) ++ (x1_1.extract (t430 : Int).toNat x1_1.size)), (wrap64 (x7_1 - 1)), (t440), (t441), (rs_), (rs_), H', ⟨by have := HK1.out; have := HJ5.out; omega⟩, ⟨is_⟩, ⟨ke_⟩, ⟨bx_⟩⟩
            ·
             rw [if_neg c21] at H
             exact absurd H (by simp)
           ·
            rw [if_neg c18] at H
            exact absurd H (by simp)
          ·
           rw [if_neg c17] at H
           exact absurd H (by simp)
         ·
          rw [if_neg c16] at H
          exact absurd H (by simp)
        ·
         rw [if_neg c15] at H
         have c15b0 : (t439 == 0) = false := beq_eq_false_iff_ne.mpr c15
         have c15b1 : (t439 != 0) = true := bne_iff_ne.mpr c15
         by_cases c28 : t439 = 1
         ·
          rw [if_pos c28] at H
          have c28b0 : (t439 == 1) = true := beq_iff_eq.mpr c28
          have c28b1 : (t439 != 1) = false := bne_eq_false_iff_eq.mpr c28
          clear c28
          by_cases c29 : 0 ≤ t430
          ·
           rw [if_pos c29] at H
           have c29b0 := eq_true c29
           have c29b1 : decide (0 ≤ t430) = true := decide_eq_true c29
           clear c29
           by_cases c30 : t430 ≤ (x1_1.size : Int)
           ·
            rw [if_pos c30] at H
            have c30b0 := eq_true c30
            have c30b1 : decide (t430 ≤ (x1_1.size : Int)) = true := decide_eq_true c30
            clear c30
            by_cases c31 : (x1_1.extract 0 (t430 : Int).toNat).size + (strOfNums y436).size ≤ 9223372036854775807
            ·
             rw [if_pos c31] at H
             have c31b0 := eq_true c31
             have c31b1 : decide ((x1_1.extract 0 (t430 : Int).toNat).size + (strOfNums y436).size ≤ 9223372036854775807) = true := decide_eq_true c31
             try have c31b2 : (9223372036854775807 < (x1_1.extract 0 (t430 : Int).toNat).size + (strOfNums y436).size) = False := eq_false (Nat.not_lt.2 c31)
             obtain ⟨ji32, hji32⟩ : ∃ j_ : Int, (wrap64 (t430 + 1)) = j_ := ⟨_, rfl⟩
             replace H : (if 0 ≤ (ji32) then (if (ji32) ≤ (x1_1.size : Int) then (if ((x1_1.extract 0 (t430 : Int).toNat) ++ (strOfNums y436)).size + (x1_1.extract ((ji32) : Int).toNat x1_1.size).size ≤ 9223372036854775807 then (spec_l1Cur_spoilt.l0 kj5 (((x1_1.extract 0 (t430 : Int).toNat) ++ (strOfNums y436)) ++ (x1_1.extract ((ji32) : Int).toNat x1_1.size)) a2 (wrap64 (x7_1 - 1)) s0_0 t440 t441) else (none)) else (none)) else (none)) = some (r1, r2, r3) := by first | (rw [hji32] at H; exact H) | (simp only [hji32] at H ⊢; exact H)
             (try rw [hji32] at A9)
             (try rw [hji32] at A10)
             (try rw [hji32] at A14)
             have hji32w : (IntKind.i64.wrap (t430 + 1)) = ji32 := (i64_w _).trans hji32
             by_cases c33 : 0 ≤ (ji32)
             ·
              rw [if_pos c33] at H
              have c33b0 := eq_true c33
              have c33b1 : decide (0 ≤ (ji32)) = true := decide_eq_true c33
              clear c33
              by_cases c34 : (ji32) ≤ (x1_1.size : Int)
              ·
               rw [if_pos c34] at H
               have c34b0 := eq_true c34
               have c34b1 : decide ((ji32) ≤ (x1_1.size : Int)) = true := decide_eq_true c34
               clear c34
               by_cases c35 : ((x1_1.extract 0 (t430 : Int).toNat) ++ (strOfNums y436)).size + (x1_1.extract ((ji32) : Int).toNat x1_1.size).size ≤ 9223372036854775807
               ·
                rw [if_pos c35] at H
                have c35b0 := eq_true c35
                have c35b1 : decide (((x1_1.extract 0 (t430 : Int).toNat) ++ (strOfNums y436)).size + (x1_1.extract ((ji32) : Int).toNat x1_1.size).size ≤ 9223372036854775807) = true := decide_eq_true c35
                try have c35b2 : (9223372036854775807 < ((x1_1.extract 0 (t430 : Int).toNat) ++ (strOfNums y436)).size + (x1_1.extract ((ji32) : Int).toNat x1_1.size).size) = False := eq_false (Nat.not_lt.2 c35)
                (try (have c35b3 := c35b2; simp only [ByteArray.size_append] at c35b3))
                have H' := Aside0.mk H
                clear H
                go_wp2_with (first | (go_at_call 47; (with_reducible refine (spec_l1Cur_pick.calls g s0_0 x1001_1 x1002_1 (x1_1.size : Int) t430 t431 t432 w0 _ ?side1 ?side2 A9.out).mono ?_); (case side1 => exact is_); (case side2 => exact bx_); rintro e w36 ⟨rfl, hi, hb, hk⟩; have n0_ := Aside0.mk (KeepBut.trans (ke_ (w := w)) hk (.inl rfl)); have n1_ := Aside0.mk (hb); have n2_ := Aside0.mk (hi); clear HK; clear HB; clear HI0; have HK := n0_; have HB := n1_; have HI0 := n2_; clear n0_ n1_ n2_; (try clear hb); (try clear hb2); (try clear hk); (try clear hi)) | (go_at_call 47; (with_reducible refine (spec_l1Cur_pick.calls g s0_0 t431 t432 (a2.size : Int) t433 t434 t435 w0 _ ?side1 ?side2 A10.out).mono ?_); (case side1 => exact is_); (case side2 => exact bx_); rintro e w37 ⟨rfl, hi, hb, hk⟩; have n0_ := Aside0.mk (KeepBut.trans (ke_ (w := w)) hk (.inl rfl)); have n1_ := Aside0.mk (hb); have n2_ := Aside0.mk (hi); clear HK; clear HB; clear HI0; have HK := n0_; have HB := n1_; have HI0 := n2_; clear n0_ n1_ n2_; (try clear hb); (try clear hb2); (try clear hk); (try clear hi); have p13 : 0 ≤ (t433 : Int) := of_decide_eq_true (by first | (with_reducible assumption) | assumption); have q13 : t433 < (a2.size : Int) := of_decide_eq_true (by first | (with_reducible assumption) | assumption); have hx13 := bt_at a2 t433; replace p13 := eq_true p13; replace q13 := eq_true q13) | ((with_reducible refine gate_dst (N := 32) rfl ?_); (try (refine gate_guard (by rfl) ?_; dsimp only)); refine Kd.R_lit (Kd.int .u8) _ 5 ?hg (N := 32) ?hd (xs := ([bt a2 t433] : List Int)) (inner := [.int .u8 (bt a2 t433)]) (ok := fun _ => True) (okp := fun _ => True) ?hr ?hp (fun _ hk => hk) trivial (Below.refl _ _) (Nat.le_refl _) (by simp) ?_; (case hd => rfl); (case hg => rfl); (case hr => first | (go_simp; done) | (go_simp; rfl)); (case hp => exact (Reps.one (show Kd.M (Kd.int .u8) _ _ _ (bt a2 t433) [.int .u8 (bt a2 t433)] from rfl) (Reps.none _ _))); intro v437 w38 ho39 hb hg_ hnew_; clear hg_ hnew_; (first | rw [← Ny436.out] at ho39 | (simp only [Int.reduceToNat] at ho39; rw [← Ny436.out] at ho39)); have n0_ := Aside0.mk (Kd.R_lower ho39 (keep_size (w := w) (g := g) (row := none) ke_)); have n1_ := Aside0.mk (IsS55.below is_ hb); have n2_ := Aside0.mk (KeepBut.trans (ke_ (w := w)) (KeepBut.of_below hb g none) (.inl rfl)); have n3_ := Aside0.mk (below_step bx_ hb); clear HI0; clear HK; clear HB; have HO438 := n0_; have HI0 := n1_; have HK := n2_; have HB := n3_; clear n0_ n1_ n2_ n3_; clear hb ho39; have hcv40 := own_string (P := Tryz.prog) Tryz.underlying22 Tryz.underlying5 Tryz.underlying9 (Kd.own_of_R HO438.out)) | (go_at_call 47; (with_reducible refine (spec_l1Cur_pick.calls g s0_0 t434 t435 3 t439 t440 t441 w0 _ ?side1 ?side2 A14.out).mono ?_); (case side1 => exact is_); (case side2 => exact bx_); rintro e w41 ⟨rfl, hi, hb, hk⟩; have n0_ := Aside0.mk (Kd.R_mono (Kd.R_keep (IsS55.apart (show IsS55 w0 _ g s0_0 t434 t435 from is_) (by (with_reducible repeat (first | apply Kd.R_alloc | apply Kd.R_drewN | apply Kd.R_drew)); exact HO438.out) (by decide)) hk (fun _ h => h.2)) (fun _ h => h.1)); have n1_ := Aside0.mk (KeepBut.trans (ke_ (w := w)) hk (.inl rfl)); have n2_ := Aside0.mk (hb); have n3_ := Aside0.mk (hi); clear HO438; clear HK; clear HB; clear HI0; have HO438 := n0_; have HK := n1_; have HB := n2_; have HI0 := n3_; clear n0_ n1_ n2_ n3_; (try clear hb); (try clear hb2); (try clear hk); (try clear hi)))
                repeat (go_quiet (first | (go_at_call 47; (with_reducible refine (spec_l1Cur_pick.calls g s0_0 x1001_1 x1002_1 (x1_1.size : Int) t430 t431 t432 w0 _ ?side1 ?side2 A9.out).mono ?_); (case side1 => exact is_); (case side2 => exact bx_); rintro e w36 ⟨rfl, hi, hb, hk⟩; have n0_ := Aside0.mk (KeepBut.trans (ke_ (w := w)) hk (.inl rfl)); have n1_ := Aside0.mk (hb); have n2_ := Aside0.mk (hi); clear HK; clear HB; clear HI0; have HK := n0_; have HB := n1_; have HI0 := n2_; clear n0_ n1_ n2_; (try clear hb); (try clear hb2); (try clear hk); (try clear hi)) | (go_at_call 47; (with_reducible refine (spec_l1Cur_pick.calls g s0_0 t431 t432 (a2.size : Int) t433 t434 t435 w0 _ ?side1 ?side2 A10.out).mono ?_); (case side1 => exact is_); (case side2 => exact bx_); rintro e w37 ⟨rfl, hi, hb, hk⟩; have n0_ := Aside0.mk (KeepBut.trans (ke_ (w := w)) hk (.inl rfl)); have n1_ := Aside0.mk (hb); have n2_ := Aside0.mk (hi); clear HK; clear HB; clear HI0; have HK := n0_; have HB := n1_; have HI0 := n2_; clear n0_ n1_ n2_; (try clear hb); (try clear hb2); (try clear hk); (try clear hi); have p13 : 0 ≤ (t433 : Int) := of_decide_eq_true (by first | (with_reducible assumption) | assumption); have q13 : t433 < (a2.size : Int) := of_decide_eq_true (by first | (with_reducible assumption) | assumption); have hx13 := bt_at a2 t433; replace p13 := eq_true p13; replace q13 := eq_true q13) | ((with_reducible refine gate_dst (N := 32) rfl ?_); (try (refine gate_guard (by rfl) ?_; dsimp only)); refine Kd.R_lit (Kd.int .u8) _ 5 ?hg (N := 32) ?hd (xs := ([bt a2 t433] : List Int)) (inner := [.int .u8 (bt a2 t433)]) (ok := fun _ => True) (okp := fun _ => True) ?hr ?hp (fun _ hk => hk) trivial (Below.refl _ _) (Nat.le_refl _) (by simp) ?_; (case hd => rfl); (case hg => rfl); (case hr => first | (go_simp; done) | (go_simp; rfl)); (case hp => exact (Reps.one (show Kd.M (Kd.int .u8) _ _ _ (bt a2 t433) [.int .u8 (bt a2 t433)] from rfl) (Reps.none _ _))); intro v437 w38 ho39 hb hg_ hnew_; clear hg_ hnew_; (first | rw [← Ny436.out] at ho39 | (simp only [Int.reduceToNat] at ho39; rw [← Ny436.out] at ho39)); have n0_ := Aside0.mk (Kd.R_lower ho39 (keep_size (w := w) (g := g) (row := none) ke_)); have n1_ := Aside0.mk (IsS55.below is_ hb); have n2_ := Aside0.mk (KeepBut.trans (ke_ (w := w)) (KeepBut.of_below hb g none) (.inl rfl)); have n3_ := Aside0.mk (below_step bx_ hb); clear HI0; clear HK; clear HB; have HO438 := n0_; have HI0 := n1_; have HK := n2_; have HB := n3_; clear n0_ n1_ n2_ n3_; clear hb ho39; have hcv40 := own_string (P := Tryz.prog) Tryz.underlying22 Tryz.underlying5 Tryz.underlying9 (Kd.own_of_R HO438.out)) | (go_at_call 47; (with_reducible refine (spec_l1Cur_pick.calls g s0_0 t434 t435 3 t439 t440 t441 w0 _ ?side1 ?side2 A14.out).mono ?_); (case side1 => exact is_); (case side2 => exact bx_); rintro e w41 ⟨rfl, hi, hb, hk⟩; have n0_ := Aside0.mk (Kd.R_mono (Kd.R_keep (IsS55.apart (show IsS55 w0 _ g s0_0 t434 t435 from is_) (by (with_reducible repeat (first | apply Kd.R_alloc | apply Kd.R_drewN | apply Kd.R_drew)); exact HO438.out) (by decide)) hk (fun _ h => h.2)) (fun _ h => h.1)); have n1_ := Aside0.mk (KeepBut.trans (ke_ (w := w)) hk (.inl rfl)); have n2_ := Aside0.mk (hb); have n3_ := Aside0.mk (hi); clear HO438; clear HK; clear HB; clear HI0; have HO438 := n0_; have HK := n1_; have HB := n2_; have HI0 := n3_; clear n0_ n1_ n2_ n3_; (try clear hb); (try clear hb2); (try clear hk); (try clear hi))); try go_wp2_with (first | (go_at_call 47; (with_reducible refine (spec_l1Cur_pick.calls g s0_0 x1001_1 x1002_1 (x1_1.size : Int) t430 t431 t432 w0 _ ?side1 ?side2 A9.out).mono ?_); (case side1 => exact is_); (case side2 => exact bx_); rintro e w36 ⟨rfl, hi, hb, hk⟩; have n0_ := Aside0.mk (KeepBut.trans (ke_ (w := w)) hk (.inl rfl)); have n1_ := Aside0.mk (hb); have n2_ := Aside0.mk (hi); clear HK; clear HB; clear HI0; have HK := n0_; have HB := n1_; have HI0 := n2_; clear n0_ n1_ n2_; (try clear hb); (try clear hb2); (try clear hk); (try clear hi)) | (go_at_call 47; (with_reducible refine (spec_l1Cur_pick.calls g s0_0 t431 t432 (a2.size : Int) t433 t434 t435 w0 _ ?side1 ?side2 A10.out).mono ?_); (case side1 => exact is_); (case side2 => exact bx_); rintro e w37 ⟨rfl, hi, hb, hk⟩; have n0_ := Aside0.mk (KeepBut.trans (ke_ (w := w)) hk (.inl rfl)); have n1_ := Aside0.mk (hb); have n2_ := Aside0.mk (hi); clear HK; clear HB; clear HI0; have HK := n0_; have HB := n1_; have HI0 := n2_; clear n0_ n1_ n2_; (try clear hb); (try clear hb2); (try clear hk); (try clear hi); have p13 : 0 ≤ (t433 : Int) := of_decide_eq_true (by first | (with_reducible assumption) | assumption); have q13 : t433 < (a2.size : Int) := of_decide_eq_true (by first | (with_reducible assumption) | assumption); have hx13 := bt_at a2 t433; replace p13 := eq_true p13; replace q13 := eq_true q13) | ((with_reducible refine gate_dst (N := 32) rfl ?_); (try (refine gate_guard (by rfl) ?_; dsimp only)); refine Kd.R_lit (Kd.int .u8) _ 5 ?hg (N := 32) ?hd (xs := ([bt a2 t433] : List Int)) (inner := [.int .u8 (bt a2 t433)]) (ok := fun _ => True) (okp := fun _ => True) ?hr ?hp (fun _ hk => hk) trivial (Below.refl _ _) (Nat.le_refl _) (by simp) ?_; (case hd => rfl); (case hg => rfl); (case hr => first | (go_simp; done) | (go_simp; rfl)); (case hp => exact (Reps.one (show Kd.M (Kd.int .u8) _ _ _ (bt a2 t433) [.int .u8 (bt a2 t433)] from rfl) (Reps.none _ _))); intro v437 w38 ho39 hb hg_ hnew_; clear hg_ hnew_; (first | rw [← Ny436.out] at ho39 | (simp only [Int.reduceToNat] at ho39; rw [← Ny436.out] at ho39)); have n0_ := Aside0.mk (Kd.R_lower ho39 (keep_size (w := w) (g := g) (row := none) ke_)); have n1_ := Aside0.mk (IsS55.below is_ hb); have n2_ := Aside0.mk (KeepBut.trans (ke_ (w := w)) (KeepBut.of_below hb g none) (.inl rfl)); have n3_ := Aside0.mk (below_step bx_ hb); clear HI0; clear HK; clear HB; have HO438 := n0_; have HI0 := n1_; have HK := n2_; have HB := n3_; clear n0_ n1_ n2_ n3_; clear hb ho39; have hcv40 := own_string (P := Tryz.prog) Tryz.underlying22 Tryz.underlying5 Tryz.underlying9 (Kd.own_of_R HO438.out)) | (go_at_call 47; (with_reducible refine (spec_l1Cur_pick.calls g s0_0 t434 t435 3 t439 t440 t441 w0 _ ?side1 ?side2 A14.out).mono ?_); (case side1 => exact is_); (case side2 => exact bx_); rintro e w41 ⟨rfl, hi, hb, hk⟩; have n0_ := Aside0.mk (Kd.R_mono (Kd.R_keep (IsS55.apart (show IsS55 w0 _ g s0_0 t434 t435 from is_) (by (with_reducible repeat (first | apply Kd.R_alloc | apply Kd.R_drewN | apply Kd.R_drew)); exact HO438.out) (by decide)) hk (fun _ h => h.2)) (fun _ h => h.1)); have n1_ := Aside0.mk (KeepBut.trans (ke_ (w := w)) hk (.inl rfl)); have n2_ := Aside0.mk (hb); have n3_ := Aside0.mk (hi); clear HO438; clear HK; clear HB; clear HI0; have HO438 := n0_; have HK := n1_; have HB := n2_; have HI0 := n3_; clear n0_ n1_ n2_ n3_; (try clear hb); (try clear hb2); (try clear hk); (try clear hi))))
                go_roundg kj5
                case measure => have := HK1.out; have := HJ5.out; omega
                case rel => exact ⟨(((x1_1.extract 0 (t430 : Int).toNat) ++ (strOfNums y436)) ++ (x1_1.extract ((ji32) : Int).toNat x1_1.size)), (wrap64 (x7_1 - 1)), (t440), (t441), (by first | rfl | (simp; done) | (simp only [← hji32] <;> (first | rfl | simp)) | (simp [*]; done)), (rs_), H', ⟨by have := HK1.out; have := HJ5.out; omega⟩, ⟨is_⟩, ⟨ke_⟩, ⟨bx_⟩⟩
               ·
                rw [if_neg c35] at H
                exact absurd H (by simp)
              ·
               rw [if_neg c34] at H
               exact absurd H (by simp)
             ·
              rw [if_neg c33] at H
              exact absurd H (by simp)
            ·
             rw [if_neg c31] at H
             exact absurd H (by simp)
           ·
            rw [if_neg c30] at H
            exact absurd H (by simp)
          ·
           rw [if_neg c29] at H
           exact absurd H (by simp)
         ·
          rw [if_neg c28] at H
          have c28b0 : (t439 == 1) = false := beq_eq_false_iff_ne.mpr c28
          have c28b1 : (t439 != 1) = true := bne_iff_ne.mpr c28
          by_cases c42 : 0 ≤ t430
          ·
           rw [if_pos c42] at H
           have c42b0 := eq_true c42
           have c42b1 : decide (0 ≤ t430) = true := decide_eq_true c42
           clear c42
           by_cases c43 : t430 ≤ (x1_1.size : Int)
           ·
            rw [if_pos c43] at H
            have c43b0 := eq_true c43
            have c43b1 : decide (t430 ≤ (x1_1.size : Int)) = true := decide_eq_true c43
            clear c43
            obtain ⟨ji44, hji44⟩ : ∃ j_ : Int, (wrap64 (t430 + 1)) = j_ := ⟨_, rfl⟩
            replace H : (if 0 ≤ (ji44) then (if (ji44) ≤ (x1_1.size : Int) then (if (x1_1.extract 0 (t430 : Int).toNat).size + (x1_1.extract ((ji44) : Int).toNat x1_1.size).size ≤ 9223372036854775807 then (spec_l1Cur_spoilt.l0 kj5 ((x1_1.extract 0 (t430 : Int).toNat) ++ (x1_1.extract ((ji44) : Int).toNat x1_1.size)) a2 (wrap64 (x7_1 - 1)) s0_0 t440 t441) else (none)) else (none)) else (none)) = some (r1, r2, r3) := by first | (rw [hji44] at H; exact H) | (simp only [hji44] at H ⊢; exact H)
            (try rw [hji44] at A9)
            (try rw [hji44] at A10)
            (try rw [hji44] at A14)
            have hji44w : (IntKind.i64.wrap (t430 + 1)) = ji44 := (i64_w _).trans hji44
            by_cases c45 : 0 ≤ (ji44)
            ·
             rw [if_pos c45] at H
             have c45b0 := eq_true c45
             have c45b1 : decide (0 ≤ (ji44)) = true := decide_eq_true c45
             clear c45
             by_cases c46 : (ji44) ≤ (x1_1.size : Int)
             ·
              rw [if_pos c46] at H
              have c46b0 := eq_true c46
              have c46b1 : decide ((ji44) ≤ (x1_1.size : Int)) = true := decide_eq_true c46
              clear c46
              by_cases c47 : (x1_1.extract 0 (t430 : Int).toNat).size + (x1_1.extract ((ji44) : Int).toNat x1_1.size).size ≤ 9223372036854775807
              ·
               rw [if_pos c47] at H
               have c47b0 := eq_true c47
               have c47b1 : decide ((x1_1.extract 0 (t430 : Int).toNat).size + (x1_1.extract ((ji44) : Int).toNat x1_1.size).size ≤ 9223372036854775807) = true := decide_eq_true c47
               try have c47b2 : (9223372036854775807 < (x1_1.extract 0 (t430 : Int).toNat).size + (x1_1.extract ((ji44) : Int).toNat x1_1.size).size) = False := eq_false (Nat.not_lt.2 c47)
               have H' := Aside0.mk H
               clear H
               go_wp2_with (first | (go_at_call 47; (with_reducible refine (spec_l1Cur_pick.calls g s0_0 x1001_1 x1002_1 (x1_1.size : Int) t430 t431 t432 w0 _ ?side1 ?side2 A9.out).mono ?_); (case side1 => exact is_); (case side2 => exact bx_); rintro e w48 ⟨rfl, hi, hb, hk⟩; have n0_ := Aside0.mk (KeepBut.trans (ke_ (w := w)) hk (.inl rfl)); have n1_ := Aside0.mk (hb); have n2_ := Aside0.mk (hi); clear HK; clear HB; clear HI0; have HK := n0_; have HB := n1_; have HI0 := n2_; clear n0_ n1_ n2_; (try clear hb); (try clear hb2); (try clear hk); (try clear hi)) | (go_at_call 47; (with_reducible refine (spec_l1Cur_pick.calls g s0_0 t431 t432 (a2.size : Int) t433 t434 t435 w0 _ ?side1 ?side2 A10.out).mono ?_); (case side1 => exact is_); (case side2 => exact bx_); rintro e w49 ⟨rfl, hi, hb, hk⟩; have n0_ := Aside0.mk (KeepBut.trans (ke_ (w := w)) hk (.inl rfl)); have n1_ := Aside0.mk (hb); have n2_ := Aside0.mk (hi); clear HK; clear HB; clear HI0; have HK := n0_; have HB := n1_; have HI0 := n2_; clear n0_ n1_ n2_; (try clear hb); (try clear hb2); (try clear hk); (try clear hi); have p13 : 0 ≤ (t433 : Int) := of_decide_eq_true (by first | (with_reducible assumption) | assumption); have q13 : t433 < (a2.size : Int) := of_decide_eq_true (by first | (with_reducible assumption) | assumption); have hx13 := bt_at a2 t433; replace p13 := eq_true p13; replace q13 := eq_true q13) | ((with_reducible refine gate_dst (N := 32) rfl ?_); (try (refine gate_guard (by rfl) ?_; dsimp only)); refine Kd.R_lit (Kd.int .u8) _ 5 ?hg (N := 32) ?hd (xs := ([bt a2 t433] : List Int)) (inner := [.int .u8 (bt a2 t433)]) (ok := fun _ => True) (okp := fun _ => True) ?hr ?hp (fun _ hk => hk) trivial (Below.refl _ _) (Nat.le_refl _) (by simp) ?_; (case hd => rfl); (case hg => rfl); (case hr => first | (go_simp; done) | (go_simp; rfl)); (case hp => exact (Reps.one (show Kd.M (Kd.int .u8) _ _ _ (bt a2 t433) [.int .u8 (bt a2 t433)] from rfl) (Reps.none _ _))); intro v437 w50 ho51 hb hg_ hnew_; clear hg_ hnew_; (first | rw [← Ny436.out] at ho51 | (simp only [Int.reduceToNat] at ho51; rw [← Ny436.out] at ho51)); have n0_ := Aside0.mk (Kd.R_lower ho51 (keep_size (w := w) (g := g) (row := none) ke_)); have n1_ := Aside0.mk (IsS55.below is_ hb); have n2_ := Aside0.mk (KeepBut.trans (ke_ (w := w)) (KeepBut.of_below hb g none) (.inl rfl)); have n3_ := Aside0.mk (below_step bx_ hb); clear HI0; clear HK; clear HB; have HO438 := n0_; have HI0 := n1_; have HK := n2_; have HB := n3_; clear n0_ n1_ n2_ n3_; clear hb ho51; have hcv52 := own_string (P := Tryz.prog) Tryz.underlying22 Tryz.underlying5 Tryz.underlying9 (Kd.own_of_R HO438.out)) | (go_at_call 47; (with_reducible refine (spec_l1Cur_pick.calls g s0_0 t434 t435 3 t439 t440 t441 w0 _ ?side1 ?side2 A14.out).mono ?_); (case side1 => exact is_); (case side2 => exact bx_); rintro e w53 ⟨rfl, hi, hb, hk⟩; have n0_ := Aside0.mk (Kd.R_mono (Kd.R_keep (IsS55.apart (show IsS55 w0 _ g s0_0 t434 t435 from is_) (by (with_reducible repeat (first | apply Kd.R_alloc | apply Kd.R_drewN | apply Kd.R_drew)); exact HO438.out) (by decide)) hk (fun _ h => h.2)) (fun _ h => h.1)); have n1_ := Aside0.mk (KeepBut.trans (ke_ (w := w)) hk (.inl rfl)); have n2_ := Aside0.mk (hb); have n3_ := Aside0.mk (hi); clear HO438; clear HK; clear HB; clear HI0; have HO438 := n0_; have HK := n1_; have HB := n2_; have HI0 := n3_; clear n0_ n1_ n2_ n3_; (try clear hb); (try clear hb2); (try clear hk); (try clear hi)))
               repeat (go_quiet (first | (go_at_call 47; (with_reducible refine (spec_l1Cur_pick.calls g s0_0 x1001_1 x1002_1 (x1_1.size : Int) t430 t431 t432 w0 _ ?side1 ?side2 A9.out).mono ?_); (case side1 => exact is_); (case side2 => exact bx_); rintro e w48 ⟨rfl, hi, hb, hk⟩; have n0_ := Aside0.mk (KeepBut.trans (ke_ (w := w)) hk (.inl rfl)); have n1_ := Aside0.mk (hb); have n2_ := Aside0.mk (hi); clear HK; clear HB; clear HI0; have HK := n0_; have HB := n1_; have HI0 := n2_; clear n0_ n1_ n2_; (try clear hb); (try clear hb2); (try clear hk); (try clear hi)) | (go_at_call 47; (with_reducible refine (spec_l1Cur_pick.calls g s0_0 t431 t432 (a2.size : Int) t433 t434 t435 w0 _ ?side1 ?side2 A10.out).mono ?_); (case side1 => exact is_); (case side2 => exact bx_); rintro e w49 ⟨rfl, hi, hb, hk⟩; have n0_ := Aside0.mk (KeepBut.trans (ke_ (w := w)) hk (.inl rfl)); have n1_ := Aside0.mk (hb); have n2_ := Aside0.mk (hi); clear HK; clear HB; clear HI0; have HK := n0_; have HB := n1_; have HI0 := n2_; clear n0_ n1_ n2_; (try clear hb); (try clear hb2); (try clear hk); (try clear hi); have p13 : 0 ≤ (t433 : Int) := of_decide_eq_true (by first | (with_reducible assumption) | assumption); have q13 : t433 < (a2.size : Int) := of_decide_eq_true (by first | (with_reducible assumption) | assumption); have hx13 := bt_at a2 t433; replace p13 := eq_true p13; replace q13 := eq_true q13) | ((with_reducible refine gate_dst (N := 32) rfl ?_); (try (refine gate_guard (by rfl) ?_; dsimp only)); refine Kd.R_lit (Kd.int .u8) _ 5 ?hg (N := 32) ?hd (xs := ([bt a2 t433] : List Int)) (inner := [.int .u8 (bt a2 t433)]) (ok := fun _ => True) (okp := fun _ => True) ?hr ?hp (fun _ hk => hk) trivial (Below.refl _ _) (Nat.le_refl _) (by simp) ?_; (case hd => rfl); (case hg => rfl); (case hr => first | (go_simp; done) | (go_simp; rfl)); (case hp => exact (Reps.one (show Kd.M (Kd.int .u8) _ _ _ (bt a2 t433) [.int .u8 (bt a2 t433)] from rfl) (Reps.none _ _))); intro v437 w50 ho51 hb hg_ hnew_; clear hg_ hnew_; (first | rw [← Ny436.out] at ho51 | (simp only [Int.reduceToNat] at ho51; rw [← Ny436.out] at ho51)); have n0_ := Aside0.mk (Kd.R_lower ho51 (keep_size (w := w) (g := g) (row := none) ke_)); have n1_ := Aside0.mk (IsS55.below is_ hb); have n2_ := Aside0.mk (KeepBut.trans (ke_ (w := w)) (KeepBut.of_below hb g none) (.inl rfl)); have n3_ := Aside0.mk (below_step bx_ hb); clear HI0; clear HK; clear HB; have HO438 := n0_; have HI0 := n1_; have HK := n2_; have HB := n3_; clear n0_ n1_ n2_ n3_; clear hb ho51; have hcv52 := own_string (P := Tryz.prog) Tryz.underlying22 Tryz.underlying5 Tryz.underlying9 (Kd.own_of_R HO438.out)) | (go_at_call 47; (with_reducible refine (spec_l1Cur_pick.calls g s0_0 t434 t435 3 t439 t440 t441 w0 _ ?side1 ?side2 A14.out).mono ?_); (case side1 => exact is_); (case side2 => exact bx_); rintro e w53 ⟨rfl, hi, hb, hk⟩; have n0_ := Aside0.mk (Kd.R_mono (Kd.R_keep (IsS55.apart (show IsS55 w0 _ g s0_0 t434 t435 from is_) (by (with_reducible repeat (first | apply Kd.R_alloc | apply Kd.R_drewN | apply Kd.R_drew)); exact HO438.out) (by decide)) hk (fun _ h => h.2)) (fun _ h => h.1)); have n1_ := Aside0.mk (KeepBut.trans (ke_ (w := w)) hk (.inl rfl)); have n2_ := Aside0.mk (hb); have n3_ := Aside0.mk (hi); clear HO438; clear HK; clear HB; clear HI0; have HO438 := n0_; have HK := n1_; have HB := n2_; have HI0 := n3_; clear n0_ n1_ n2_ n3_; (try clear hb); (try clear hb2); (try clear hk); (try clear hi))); try go_wp2_with (first | (go_at_call 47; (with_reducible refine (spec_l1Cur_pick.calls g s0_0 x1001_1 x1002_1 (x1_1.size : Int) t430 t431 t432 w0 _ ?side1 ?side2 A9.out).mono ?_); (case side1 => exact is_); (case side2 => exact bx_); rintro e w48 ⟨rfl, hi, hb, hk⟩; have n0_ := Aside0.mk (KeepBut.trans (ke_ (w := w)) hk (.inl rfl)); have n1_ := Aside0.mk (hb); have n2_ := Aside0.mk (hi); clear HK; clear HB; clear HI0; have HK := n0_; have HB := n1_; have HI0 := n2_; clear n0_ n1_ n2_; (try clear hb); (try clear hb2); (try clear hk); (try clear hi)) | (go_at_call 47; (with_reducible refine (spec_l1Cur_pick.calls g s0_0 t431 t432 (a2.size : Int) t433 t434 t435 w0 _ ?side1 ?side2 A10.out).mono ?_); (case side1 => exact is_); (case side2 => exact bx_); rintro e w49 ⟨rfl, hi, hb, hk⟩; have n0_ := Aside0.mk (KeepBut.trans (ke_ (w := w)) hk (.inl rfl)); have n1_ := Aside0.mk (hb); have n2_ := Aside0.mk (hi); clear HK; clear HB; clear HI0; have HK := n0_; have HB := n1_; have HI0 := n2_; clear n0_ n1_ n2_; (try clear hb); (try clear hb2); (try clear hk); (try clear hi); have p13 : 0 ≤ (t433 : Int) := of_decide_eq_true (by first | (with_reducible assumption) | assumption); have q13 : t433 < (a2.size : Int) := of_decide_eq_true (by first | (with_reducible assumption) | assumption); have hx13 := bt_at a2 t433; replace p13 := eq_true p13; replace q13 := eq_true q13) | ((with_reducible refine gate_dst (N := 32) rfl ?_); (try (refine gate_guard (by rfl) ?_; dsimp only)); refine Kd.R_lit (Kd.int .u8) _ 5 ?hg (N := 32) ?hd (xs := ([bt a2 t433] : List Int)) (inner := [.int .u8 (bt a2 t433)]) (ok := fun _ => True) (okp := fun _ => True) ?hr ?hp (fun _ hk => hk) trivial (Below.refl _ _) (Nat.le_refl _) (by simp) ?_; (case hd => rfl); (case hg => rfl); (case hr => first | (go_simp; done) | (go_simp; rfl)); (case hp => exact (Reps.one (show Kd.M (Kd.int .u8) _ _ _ (bt a2 t433) [.int .u8 (bt a2 t433)] from rfl) (Reps.none _ _))); intro v437 w50 ho51 hb hg_ hnew_; clear hg_ hnew_; (first | rw [← Ny436.out] at ho51 | (simp only [Int.reduceToNat] at ho51; rw [← Ny436.out] at ho51)); have n0_ := Aside0.mk (Kd.R_lower ho51 (keep_size (w := w) (g := g) (row := none) ke_)); have n1_ := Aside0.mk (IsS55.below is_ hb); have n2_ := Aside0.mk (KeepBut.trans (ke_ (w := w)) (KeepBut.of_below hb g none) (.inl rfl)); have n3_ := Aside0.mk (below_step bx_ hb); clear HI0; clear HK; clear HB; have HO438 := n0_; have HI0 := n1_; have HK := n2_; have HB := n3_; clear n0_ n1_ n2_ n3_; clear hb ho51; have hcv52 := own_string (P := Tryz.prog) Tryz.underlying22 Tryz.underlying5 Tryz.underlying9 (Kd.own_of_R HO438.out)) | (go_at_call 47; (with_reducible refine (spec_l1Cur_pick.calls g s0_0 t434 t435 3 t439 t440 t441 w0 _ ?side1 ?side2 A14.out).mono ?_); (case side1 => exact is_); (case side2 => exact bx_); rintro e w53 ⟨rfl, hi, hb, hk⟩; have n0_ := Aside0.mk (Kd.R_mono (Kd.R_keep (IsS55.apart (show IsS55 w0 _ g s0_0 t434 t435 from is_) (by (with_reducible repeat (first | apply Kd.R_alloc | apply Kd.R_drewN | apply Kd.R_drew)); exact HO438.out) (by decide)) hk (fun _ h => h.2)) (fun _ h => h.1)); have n1_ := Aside0.mk (KeepBut.trans (ke_ (w := w)) hk (.inl rfl)); have n2_ := Aside0.mk (hb); have n3_ := Aside0.mk (hi); clear HO438; clear HK; clear HB; clear HI0; have HO438 := n0_; have HK := n1_; have HB := n2_; have HI0 := n3_; clear n0_ n1_ n2_ n3_; (try clear hb); (try clear hb2); (try clear hk); (try clear hi))))
               go_roundg kj5
               case measure => have := HK1.out; have := HJ5.out; omega
               case rel => exact ⟨((x1_1.extract 0 (t430 : Int).toNat) ++ (x1_1.extract ((ji44) : Int).toNat x1_1.size)), (wrap64 (x7_1 - 1)), (t440), (t441), (by first | rfl | (simp; done) | (simp only [← hji44] <;> (first | rfl | simp)) | (simp [*]; done)), (rs_), H', ⟨by have := HK1.out; have := HJ5.out; omega⟩, ⟨is_⟩, ⟨ke_⟩, ⟨bx_⟩⟩
              ·
               rw [if_neg c47] at H
               exact absurd H (by simp)
             ·
              rw [if_neg c46] at H
              exact absurd H (by simp)
            ·
             rw [if_neg c45] at H
             exact absurd H (by simp)
           ·
            rw [if_neg c43] at H
            exact absurd H (by simp)
          ·
           rw [if_neg c42] at H
           exact absurd H (by simp)
       ·
        rw [if_neg c12] at H
        exact absurd H (by simp)
      ·
       rw [if_neg c11] at H
       exact absurd H (by simp)
     ·
      replace c8 := Bool.eq_false_iff.mpr c8
      subst c8
      rw [if_neg (show ¬ (false = true) by decide)] at H
      simp only [Option.some.injEq, Prod.mk.injEq] at H
      obtain ⟨rfl, rfl, rfl⟩ := H
      go_wp2
      repeat (go_quiet (fail); try go_wp2)
      go_ret
      exact ⟨rt_, is_, bx_, ke_⟩

/-! ### spec_DrawParseChase: function 23 -/
def spec_DrawParseChase.f (k : Nat) (l0 : List Int) : Option (ByteArray) := (spec_l1Cur_sureChase.f l0 0 0).bind fun bt443 => ((spec_doText.f k bt443.1 bt443.2.1 bt443.2.2.1 bt443.2.2.2.1).bind fun t449 => ((spec_l1Cur_one.f l0 bt443.2.2.2.2.1 bt443.2.2.2.2.2 3).bind fun bt450 => (if bt450.1 = true then ((spec_l1Cur_spoilt.f k l0 bt450.2.1 bt450.2.2 t449 (⟨#[48, 49, 50, 51, 45, 120]⟩ : ByteArray)).bind fun bt453 => (some bt453.1)) else (some t449))))

set_option maxHeartbeats 8000000 in
set_option maxRecDepth 100000 in
theorem spec_DrawParseChase.calls (k : Nat) (A0 : Option Addr) (c0 : Nat) (l0 : List Int) (r : ByteArray) (w : World) (hr0 : Kd.C (Kd.int .u8) w A0 l0.length l0) (hc0 : l0.length ≤ c0) (h : spec_DrawParseChase.f k l0 = some r) :
  Calls Tryz.prog 23 #[.slice A0 l0.length c0] w fun e w' => e = .returned (.string r) ∧ Below w.heap.size w w' := by
 have hu55 := Tryz.underlying55
 have HR0 := Aside0.mk hr0
 have HC0 := Aside0.mk hc0
 clear hr0 hc0
 have HB := Aside0.mk (Below.refl w.heap.size w)
 have H := h
 unfold spec_DrawParseChase.f at H
 clear h
 replace H := Option.bind_eq_some_iff.mp H
 obtain ⟨⟨t443, t444, t445, t446, t447, t448⟩, A20, H⟩ := H
 (try dsimp only at H)
 have A2 := Aside0.mk A20
 clear A20
 replace H := Option.bind_eq_some_iff.mp H
 obtain ⟨t449, A30, H⟩ := H
 (try dsimp only at H)
 have A3 := Aside0.mk A30
 clear A30
 replace H := Option.bind_eq_some_iff.mp H
 obtain ⟨⟨t450, t451, t452⟩, A40, H⟩ := H
 (try dsimp only at H)
 have A4 := Aside0.mk A40
 clear A40
 by_cases c5 : t450 = true
 ·
  subst c5
  rw [if_pos rfl] at H
  replace H := Option.bind_eq_some_iff.mp H
  obtain ⟨⟨t453, t454, t455⟩, A60, H⟩ := H
  replace H : (some t453) = some r := H
  have A6 := Aside0.mk A60
  clear A60
  obtain rfl := Option.some.inj H
  go_enter Tryz.func23, Tryz.ntmps23
  go_wp2_with (first | ((with_reducible refine gate_dst (N := 7) rfl ?_); refine be_ 7 #[.slice A0 l0.length c0, .int .i64 0, .int .u64 0] 55 ?_; intro gb442 hg w7 hbox hb; have n0_ := Aside0.mk (below_step bw_ hb); have n1_ := Aside0.mk ((⟨_, _, hbox, (by rw [hg]; exact (below_size bw_) : w.heap.size ≤ gb442), HR0.out⟩ : IsS55 w _ gb442 l0 0 0)); have n2_ := Aside0.mk (bz_ (w := w) hg); have n3_ := Aside0.mk (bz_ (w := w) hg); clear HB; have HB := n0_; have HI442 := n1_; have GW442 := n2_; have GE442 := n3_; clear n0_ n1_ n2_ n3_; clear hb hbox hg) | ((with_reducible refine gate_callee (f := 49) rfl ?_); refine gl_ (some 9) Tryz.func49 #[.pointer (some ⟨gb442, 0, none⟩)] ?_; (with_reducible refine (spec_l1Cur_sureChase.calls gb442 l0 0 0 t443 t444 t445 t446 t447 t448 w _ ?side1 ?side2 A2.out).mono ?_); (case side1 => repeat (first | (with_reducible first | exact HI442.out | apply IsS55.alloc | apply IsS55.drewN | apply IsS55.drew | apply IsS55.set_1 | apply IsS55.set_2) | exact HI442.out)); (case side2 => repeat (first | (with_reducible first | exact HB.out | apply below_alloc | apply pw_below_drewN | apply below_drew1 | refine below_set ?_ (IsS55.ge HI442.out)) | exact HB.out)); rintro e w8 ⟨rfl, hi, hb, hk⟩; refine ⟨_, rfl, ?_⟩; have n0_ := Aside0.mk (hb); have n1_ := Aside0.mk (hi); clear HB; clear HI442; have HB := n0_; have HI442 := n1_; clear n0_ n1_; (try clear hb); (try clear hb2); (try clear hk); (try clear hi)) | ((with_reducible refine gate_callee (f := 48) rfl ?_); refine gl_ (some 10) Tryz.func48 #[.agg #[.int .i64 t443, .int .i64 t444, .int .i64 t445, .int .i64 t446]] ?_; (with_reducible refine (spec_doText.calls k t443 t444 t445 t446 t449 _ A3.out).mono ?_); rintro e w9 ⟨rfl, hb⟩; refine ⟨_, rfl, ?_⟩; have n0_ := Aside0.mk (IsS55.below (by repeat (first | (with_reducible first | exact HI442.out | apply IsS55.alloc | apply IsS55.drewN | apply IsS55.drew | apply IsS55.set_1 | apply IsS55.set_2) | exact HI442.out)) hb); have n1_ := Aside0.mk (below_step (by repeat (first | (with_reducible first | exact HB.out | apply below_alloc | apply pw_below_drewN | apply below_drew1 | refine below_set ?_ (IsS55.ge HI442.out)) | exact HB.out)) hb); clear HI442; clear HB; have HI442 := n0_; have HB := n1_; clear n0_ n1_; (try clear hb); (try clear hb2); (try clear hk); (try clear hi)) | ((with_reducible refine gate_callee (f := 46) rfl ?_); refine gl_ (some 12) Tryz.func46 #[.pointer (some ⟨gb442, 0, none⟩), .int .i64 3] ?_; (with_reducible refine (spec_l1Cur_one.calls gb442 l0 t447 t448 3 true t451 t452 w _ ?side1 ?side2 A4.out).mono ?_); (case side1 => repeat (first | (with_reducible first | exact HI442.out | apply IsS55.alloc | apply IsS55.drewN | apply IsS55.drew | apply IsS55.set_1 | apply IsS55.set_2) | exact HI442.out)); (case side2 => repeat (first | (with_reducible first | exact HB.out | apply below_alloc | apply pw_below_drewN | apply below_drew1 | refine below_set ?_ (IsS55.ge HI442.out)) | exact HB.out)); rintro e w10 ⟨rfl, hi, hb, hk⟩; refine ⟨_, rfl, ?_⟩; have n0_ := Aside0.mk (hb); have n1_ := Aside0.mk (hi); clear HB; clear HI442; have HB := n0_; have HI442 := n1_; clear n0_ n1_; (try clear hb); (try clear hb2); (try clear hk); (try clear hi)) | ((with_reducible refine gate_callee (f := 50) rfl ?_); refine gl_ (some 15) Tryz.func50 #[.pointer (some ⟨gb442, 0, none⟩), .string t449, .string (⟨#[48, 49, 50, 51, 45, 120]⟩ : ByteArray)] ?_; (with_reducible refine (spec_l1Cur_spoilt.calls k gb442 l0 t451 t452 t449 (⟨#[48, 49, 50, 51, 45, 120]⟩ : ByteArray) t453 t454 t455 w _ ?side1 ?side2 A6.out).mono ?_); (case side1 => repeat (first | (with_reducible first | exact HI442.out | apply IsS55.alloc | apply IsS55.drewN | apply IsS55.drew | apply IsS55.set_1 | apply IsS55.set_2) | exact HI442.out)); (case side2 => repeat (first | (with_reducible first | exact HB.out | apply below_alloc | apply pw_below_drewN | apply below_drew1 | refine below_set ?_ (IsS55.ge HI442.out)) | exact HB.out)); rintro e w11 ⟨rfl, hi, hb, hk⟩; refine ⟨_, rfl, ?_⟩; have n0_ := Aside0.mk (hb); have n1_ := Aside0.mk (hi); clear HB; clear HI442; have HB := n0_; have HI442 := n1_; clear n0_ n1_; (try clear hb); (try clear hb2); (try clear hk); (try clear hi)))
  go_ret
  exact ⟨rt_, by repeat (first | (with_reducible first | exact HB.out | apply below_alloc | apply pw_below_drewN | apply below_drew1 | refine below_set ?_ (IsS55.ge HI442.out)) | exact HB.out)⟩
 ·
  replace c5 := Bool.eq_false_iff.mpr c5
  subst c5
  rw [if_neg (show ¬ (false = true) by decide)] at H
  obtain rfl := Option.some.inj H
  go_enter Tryz.func23, Tryz.ntmps23
  go_wp2_with (first | ((with_reducible refine gate_dst (N := 7) rfl ?_); refine be_ 7 #[.slice A0 l0.length c0, .int .i64 0, .int .u64 0] 55 ?_; intro gb442 hg w12 hbox hb; have n0_ := Aside0.mk (below_step bw_ hb); have n1_ := Aside0.mk ((⟨_, _, hbox, (by rw [hg]; exact (below_size bw_) : w.heap.size ≤ gb442), HR0.out⟩ : IsS55 w _ gb442 l0 0 0)); have n2_ := Aside0.mk (bz_ (w := w) hg); have n3_ := Aside0.mk (bz_ (w := w) hg); clear HB; have HB := n0_; have HI442 := n1_; have GW442 := n2_; have GE442 := n3_; clear n0_ n1_ n2_ n3_; clear hb hbox hg) | ((with_reducible refine gate_callee (f := 49) rfl ?_); refine gl_ (some 9) Tryz.func49 #[.pointer (some ⟨gb442, 0, none⟩)] ?_; (with_reducible refine (spec_l1Cur_sureChase.calls gb442 l0 0 0 t443 t444 t445 t446 t447 t448 w _ ?side1 ?side2 A2.out).mono ?_); (case side1 => repeat (first | (with_reducible first | exact HI442.out | apply IsS55.alloc | apply IsS55.drewN | apply IsS55.drew | apply IsS55.set_1 | apply IsS55.set_2) | exact HI442.out)); (case side2 => repeat (first | (with_reducible first | exact HB.out | apply below_alloc | apply pw_below_drewN | apply below_drew1 | refine below_set ?_ (IsS55.ge HI442.out)) | exact HB.out)); rintro e w13 ⟨rfl, hi, hb, hk⟩; refine ⟨_, rfl, ?_⟩; have n0_ := Aside0.mk (hb); have n1_ := Aside0.mk (hi); clear HB; clear HI442; have HB := n0_; have HI442 := n1_; clear n0_ n1_; (try clear hb); (try clear hb2); (try clear hk); (try clear hi)) | ((with_reducible refine gate_callee (f := 48) rfl ?_); refine gl_ (some 10) Tryz.func48 #[.agg #[.int .i64 t443, .int .i64 t444, .int .i64 t445, .int .i64 t446]] ?_; (with_reducible refine (spec_doText.calls k t443 t444 t445 t446 t449 _ A3.out).mono ?_); rintro e w14 ⟨rfl, hb⟩; refine ⟨_, rfl, ?_⟩; have n0_ := Aside0.mk (IsS55.below (by repeat (first | (with_reducible first | exact HI442.out | apply IsS55.alloc | apply IsS55.drewN | apply IsS55.drew | apply IsS55.set_1 | apply IsS55.set_2) | exact HI442.out)) hb); have n1_ := Aside0.mk (below_step (by repeat (first | (with_reducible first | exact HB.out | apply below_alloc | apply pw_below_drewN | apply below_drew1 | refine below_set ?_ (IsS55.ge HI442.out)) | exact HB.out)) hb); clear HI442; clear HB; have HI442 := n0_; have HB := n1_; clear n0_ n1_; (try clear hb); (try clear hb2); (try clear hk); (try clear hi)) | ((with_reducible refine gate_callee (f := 46) rfl ?_); refine gl_ (some 12) Tryz.func46 #[.pointer (some ⟨gb442, 0, none⟩), .int .i64 3] ?_; (with_reducible refine (spec_l1Cur_one.calls gb442 l0 t447 t448 3 false t451 t452 w _ ?side1 ?side2 A4.out).mono ?_); (case side1 => repeat (first | (with_reducible first | exact HI442.out | apply IsS55.alloc | apply IsS55.drewN | apply IsS55.drew | apply IsS55.set_1 | apply IsS55.set_2) | exact HI442.out)); (case side2 => repeat (first | (with_reducible first | exact HB.out | apply below_alloc | apply pw_below_drewN | apply below_drew1 | refine below_set ?_ (IsS55.ge HI442.out)) | exact HB.out)); rintro e w15 ⟨rfl, hi, hb, hk⟩; refine ⟨_, rfl, ?_⟩; have n0_ := Aside0.mk (hb); have n1_ := Aside0.mk (hi); clear HB; clear HI442; have HB := n0_; have HI442 := n1_; clear n0_ n1_; (try clear hb); (try clear hb2); (try clear hk); (try clear hi)))
  go_ret
  exact ⟨rt_, by repeat (first | (with_reducible first | exact HB.out | apply below_alloc | apply pw_below_drewN | apply below_drew1 | refine below_set ?_ (IsS55.ge HI442.out)) | exact HB.out)⟩


/-! ### strconv_Itoa: function 67 -/
/-- the table of tens reads as its text lays it -/
def LaidT (w : World) : Prop := Go.Lib.TabIs Tryz.prog w "internal/strconv.uint64pow10" .u64 Go.Lib.pow10Tab
theorem LaidT.below {w w1 : World} (h : LaidT w) (hb : Below w.heap.size w w1) : LaidT w1 := Go.Lib.tabBelow_of_tabIs h w1 hb
/-- a number in decimal -/
def strconv_Itoa.f (a0 : Int) : Option (ByteArray) := if -9223372036854775808 ≤ a0 ∧ a0 ≤ 9223372036854775807 then some ⟨(Go.Lib.itoa a0).toArray⟩ else none
theorem strconv_Itoa.calls (a0 : Int) (r : ByteArray) (w : World) (h : strconv_Itoa.f a0 = some r) (hL0 : LaidT w := by first | (with_reducible exact hL0) | exact LaidT.below hL0 (by repeat (first | (with_reducible first | exact HB.out | apply below_alloc | apply pw_below_drewN | apply below_drew1 | refine below_set ?_ (Nat.le_refl _) | refine below_set ?_ (Aside0.out (by assumption))) | exact HB.out | exact Below.refl _ _)) | exact LaidT.below (by with_unfolding_all exact And.left hL0) (by repeat (first | (with_reducible first | exact HB.out | apply below_alloc | apply pw_below_drewN | apply below_drew1 | refine below_set ?_ (Nat.le_refl _) | refine below_set ?_ (Aside0.out (by assumption))) | exact HB.out | exact Below.refl _ _))) :
  Calls Tryz.prog 67 #[.int .i64 a0] w fun e w' => e = .returned (.string r) ∧ Below w.heap.size w w' := by
 unfold strconv_Itoa.f at h
 by_cases c : -9223372036854775808 ≤ a0 ∧ a0 ≤ 9223372036854775807
 case neg => rw [if_neg c] at h; cases h
 rw [if_pos c] at h
 obtain rfl := Option.some.inj h
 refine (Tryz.strconv_Itoa a0 c.1 c.2 w hL0).mono ?_
 rintro e w' ⟨rfl, k, os, rfl⟩
 exact ⟨rfl, Go.Lib.below_grow _ _ (Nat.le_refl _) _ _⟩


/-! ### impl_readNumber: function 64 -/
/-- what reading numbers leans on: the table of tens, the two errors, the greatest length that the search takes -/
def LaidA (w : World) : Prop := LaidT w ∧ (∃ ev, w.cell? ⟨1, 0, none⟩ = some ev ∧ (ev = .nilIface ∨ ∃ te pe, ev = .iface te pe)) ∧ (∃ ev, w.cell? ⟨2, 0, none⟩ = some ev ∧ (ev = .nilIface ∨ ∃ te pe, ev = .iface te pe)) ∧ (∃ m, w.cell? ⟨0, 0, none⟩ = some (.int .i64 m))
theorem LaidA.below {w w1 : World} (h : LaidA w) (hb : Below w.heap.size w w1) : LaidA w1 := by
 obtain ⟨h1, ⟨e1, h2, h3⟩, ⟨e2, h4, h5⟩, ⟨m, h6⟩⟩ := h
 exact ⟨h1.below hb, ⟨e1, pw_cell_below hb h2, h3⟩, ⟨e2, pw_cell_below hb h4, h5⟩, ⟨m, pw_cell_below hb h6⟩⟩
/-- the number that a text is the decimal of -/
def readN (s : ByteArray) : Int × Bool := match Go.Lib.atoiAll s.data.toList with
  | .ok v => if Go.Lib.itoa v = s.data.toList then (v, true) else (0, false)
  | _ => (0, false)
def impl_readNumber.f (a0 : ByteArray) : Option (Int × Bool) := if a0.size ≤ 281474976710656 then some (readN a0) else none
set_option maxHeartbeats 4000000 in
set_option maxRecDepth 100000 in
theorem impl_readNumber.calls (a0 : ByteArray) (r1 : Int) (r2 : Bool) (w : World) (h : impl_readNumber.f a0 = some (r1, r2)) (hL0 : LaidA w := by first | (with_reducible exact hL0) | exact LaidA.below hL0 (by repeat (first | (with_reducible first | exact HB.out | apply below_alloc | apply pw_below_drewN | apply below_drew1 | refine below_set ?_ (Nat.le_refl _) | refine below_set ?_ (Aside0.out (by assumption))) | exact HB.out | exact Below.refl _ _))) :
  Calls Tryz.prog 64 #[.string a0] w fun e w' => e = .returned (.tuple #[.int .i64 r1, .bool r2]) ∧ Below w.heap.size w w' := by
 unfold impl_readNumber.f at h
 by_cases c : a0.size ≤ 281474976710656
 case neg => rw [if_neg c] at h; cases h
 rw [if_pos c] at h
 have hr : readN a0 = (r1, r2) := Option.some.inj h
 clear h
 obtain ⟨hT, ⟨e1, h2, h3⟩, ⟨e2, h4, h5⟩, -⟩ := hL0
 unfold readN at hr
 rcases ha : Go.Lib.atoiAll a0.data.toList with v | _ | _
 ·
  rw [ha] at hr
  obtain ⟨b1, b2⟩ := Go.Lib.atoiAll_bounds ha
  have HT := Aside0.mk (fun (W : World) (hb : Below w.heap.size w W) => Tryz.strconv_Itoa v b1 b2 W (hT.below hb))
  have HA := Aside0.mk (Tryz.strconv_Atoi_ok a0 (by omega) v ha w)
  have key : (if Go.Lib.itoa v = a0.data.toList then (v, true) else (0, false)) = (r1, r2) := hr
  have es : ((⟨(Go.Lib.itoa v).toArray⟩ : ByteArray) = a0) ↔ Go.Lib.itoa v = a0.data.toList := by
   constructor
   ·
    intro e
    rw [← e]
   ·
    intro e
    rw [e]
  clear hr ha hT h2 h3 h4 h5
  by_cases z : Go.Lib.itoa v = a0.data.toList
  ·
   rw [if_pos z] at key
   obtain ⟨rfl, rfl⟩ := Prod.mk.inj key
   have z2 := es.mpr z
   clear es z key
   generalize (⟨(Go.Lib.itoa v).toArray⟩ : ByteArray) = t at *
   subst z2
   go_enter Tryz.func64, Tryz.ntmps64
   go_wp2_with (first | (go_at_call 70; refine HA.out.mono ?_; rintro e w1 ⟨rfl, hw⟩; have hb1 : Below w.heap.size w w1 := (by rcases hw with rfl | ⟨q, rfl⟩; exact Below.refl _ _; exact Go.Lib.bytesWorld_below _ _ _); have HB1 := Aside0.mk hb1; clear hw hb1) | (go_at_call 67; refine (HT.out _ (by repeat (first | exact HB1.out | apply below_alloc | apply pw_below_drewN | apply below_drew1))).mono ?_; rintro e w2 ⟨rfl, kq, os, hw2⟩; have HB2 := Aside0.mk (show Below w.heap.size w w2 from by rw [hw2]; exact below_step (by repeat (first | exact HB1.out | apply below_alloc | apply pw_below_drewN | apply below_drew1)) (Go.Lib.below_grow _ _ (Nat.le_refl _) _ _)); clear hw2))
   go_ret2
   exact ⟨rfl, by repeat (first | exact HB2.out | apply below_alloc | apply pw_below_drewN | apply below_drew1)⟩
  ·
   rw [if_neg z] at key
   obtain ⟨rfl, rfl⟩ := Prod.mk.inj key
   have z2 : ¬ ((⟨(Go.Lib.itoa v).toArray⟩ : ByteArray) = a0) := fun q => z (es.mp q)
   clear es z key
   generalize (⟨(Go.Lib.itoa v).toArray⟩ : ByteArray) = t at *
   have hz : (t.toList == a0.toList) = false := by
    rw [beq_eq_false_iff_ne]
    intro e
    rw [ByteArray.toList_eq, ByteArray.toList_eq] at e
    exact z2 (ByteArray.ext (Array.toList_inj.mp e))
   go_enter Tryz.func64, Tryz.ntmps64
   go_wp2_with (first | (go_at_call 70; refine HA.out.mono ?_; rintro e w1 ⟨rfl, hw⟩; have hb1 : Below w.heap.size w w1 := (by rcases hw with rfl | ⟨q, rfl⟩; exact Below.refl _ _; exact Go.Lib.bytesWorld_below _ _ _); have HB1 := Aside0.mk hb1; clear hw hb1) | (go_at_call 67; refine (HT.out _ (by repeat (first | exact HB1.out | apply below_alloc | apply pw_below_drewN | apply below_drew1))).mono ?_; rintro e w2 ⟨rfl, kq, os, hw2⟩; have HB2 := Aside0.mk (show Below w.heap.size w w2 from by rw [hw2]; exact below_step (by repeat (first | exact HB1.out | apply below_alloc | apply pw_below_drewN | apply below_drew1)) (Go.Lib.below_grow _ _ (Nat.le_refl _) _ _)); clear hw2))
   go_ret2
   exact ⟨rfl, by repeat (first | exact HB2.out | apply below_alloc | apply pw_below_drewN | apply below_drew1)⟩
 ·
  rw [ha] at hr
  obtain ⟨rfl, rfl⟩ := Prod.mk.inj hr
  have HA := Aside0.mk (Tryz.strconv_Atoi_syntax a0 c (fun v e => by rw [ha] at e; cases e) (fun e => by rw [ha] at e; cases e) e1 w h2 h3)
  clear hr ha hT h2 h3 h4 h5
  go_enter Tryz.func64, Tryz.ntmps64
  go_wp2_with (go_at_call 70; refine HA.out.mono ?_; rintro e w1 ⟨N, rfl, -, -, hb⟩; have HB1 := Aside0.mk hb; clear hb)
  go_ret2
  exact ⟨rfl, by repeat (first | exact HB1.out | apply below_alloc | apply pw_below_drewN | apply below_drew1)⟩
 ·
  rw [ha] at hr
  obtain ⟨rfl, rfl⟩ := Prod.mk.inj hr
  have HA := Aside0.mk (Tryz.strconv_Atoi_range a0 c ha e2 w h4 h5)
  clear hr ha hT h2 h3 h4 h5
  go_enter Tryz.func64, Tryz.ntmps64
  go_wp2_with (go_at_call 70; refine HA.out.mono ?_; rintro e w1 ⟨N, rfl, -, -, hb⟩; have HB1 := Aside0.mk hb; clear hb)
  go_ret2
  exact ⟨rfl, by repeat (first | exact HB1.out | apply below_alloc | apply pw_below_drewN | apply below_drew1)⟩


/-! ### strings_Split: function 63 -/
/-- the pieces of a text between a separator that is not empty -/
def strings_Split.f (a0 : ByteArray) (a1 : ByteArray) : Option (List (ByteArray)) := if a0.size < 4294967281 ∧ 1 ≤ a1.size then some (Go.Lib.splitB a1 0 (Go.Lib.countB a0 a1) a0) else none
theorem strings_Split.calls (a0 : ByteArray) (a1 : ByteArray) (r : List (ByteArray)) (w : World) (h : strings_Split.f a0 a1 = some r) (hL0 : LaidA w := by first | (with_reducible exact hL0) | exact LaidA.below hL0 (by repeat (first | (with_reducible first | exact HB.out | apply below_alloc | apply pw_below_drewN | apply below_drew1 | refine below_set ?_ (Nat.le_refl _) | refine below_set ?_ (Aside0.out (by assumption))) | exact HB.out | exact Below.refl _ _))) :
  Calls Tryz.prog 63 #[.string a0, .string a1] w fun e w' => ∃ v0_ : Value, e = .returned (v0_) ∧ Kd.R Kd.string 9 w' w.heap.size (fun _ => True) v0_ r ∧ Below w.heap.size w w' := by
 unfold strings_Split.f at h
 by_cases c : a0.size < 4294967281 ∧ 1 ≤ a1.size
 case neg => rw [if_neg c] at h; cases h
 rw [if_pos c] at h
 obtain rfl := Option.some.inj h
 obtain ⟨-, -, -, ⟨m, hm⟩⟩ := hL0
 refine (Tryz.strings_Split a0 a1 m w c.1 hm c.2).mono ?_
 rintro e w' ⟨rfl, rfl⟩
 have hl := Go.Lib.splitB_all a1 c.2 0 _ a0 rfl
 generalize Go.Lib.splitB a1 0 (Go.Lib.countB a0 a1) a0 = l at *
 have hm2 : l.length ≤ maxLen := by have := Go.Lib.countB_le a1 c.2 _ a0 (Nat.le_refl _); rw [hl]; show _ ≤ 9223372036854775807; omega
 rw [← hl]
 refine ⟨_, rfl, ?_, below_alloc (Below.refl _ _) _⟩
 have ho := World.ownsRow_lit (base := w.heap.size) (e := 9) (size := 1) w (l.map Value.string).toArray l.length (Nat.le_refl _) hm2 (by simp)
 rw [List.toList_toArray] at ho
 exact Kd.R_of_own ho (fun _ _ => trivial)

/-! ### impl_readNumbers: function 51 -/
def impl_readNumbers.l0 : Nat → List Int → List ByteArray → Int → Int → Option (List Int × Bool)
  | 0, _, _, _, _ => none
  | k + 1, x6, x13, x14, x15 => if x15 < x14 then (if 0 ≤ x15 then (if x15 < (x13.length : Int) then ((impl_readNumber.f (rdOf ByteArray.empty x13 x15)).bind fun bt460 => (if bt460.2 = true then (if x6.length < 17592186044416 then (impl_readNumbers.l0 k (x6 ++ [bt460.1]) x13 x14 (wrap64 (x15 + 1))) else (none)) else (some (([] : List Int), false)))) else (none)) else (none)) else (some (x6, true))
def impl_readNumbers.f (k : Nat) (a0 : ByteArray) (a1 : ByteArray) : Option (List Int × Bool) := (strings_Split.f a0 a1).bind fun t456 => (impl_readNumbers.l0 k ([] : List Int) t456 (t456.length : Int) 0)


set_option maxHeartbeats 8000000 in
set_option maxRecDepth 100000 in
theorem impl_readNumbers.calls (k : Nat) (a0 : ByteArray) (a1 : ByteArray) (r1 : List Int) (r2 : Bool) (w : World) (h : impl_readNumbers.f k a0 a1 = some (r1, r2)) (hL0 : LaidA w := by first | (with_reducible exact hL0) | exact LaidA.below hL0 (by repeat (first | (with_reducible first | exact HB.out | apply below_alloc | apply pw_below_drewN | apply below_drew1 | refine below_set ?_ (Nat.le_refl _) | refine below_set ?_ (Aside0.out (by assumption))) | exact HB.out | exact Below.refl _ _))) :
  Calls Tryz.prog 51 #[.string a0, .string a1] w fun e w' => ∃ v0_ : Value, e = .returned (.tuple #[v0_, .bool r2]) ∧ Kd.R (Kd.int .i64) 3 w' w.heap.size (fun _ => True) v0_ r1 ∧ Below w.heap.size w w' := by
 have HB := Aside0.mk (Below.refl w.heap.size w)
 have H := h
 unfold impl_readNumbers.f at H
 clear h
 replace H := Option.bind_eq_some_iff.mp H
 obtain ⟨t456, A30, H⟩ := H
 (try dsimp only at H)
 have A3 := Aside0.mk A30
 clear A30
 have H' := Aside0.mk H
 clear H
 go_enter Tryz.func51, Tryz.ntmps51
 go_wp2_with (first | ((with_reducible refine gate_callee (f := 63) rfl ?_); refine gl_ (some 13) Tryz.func63 #[.string a0, .string a1] ?_; (with_reducible refine (strings_Split.calls a0 a1 t456 _ A3.out).mono ?_); rintro e w4 ⟨v457, rfl, ho0, hb⟩; refine ⟨_, rfl, ?_⟩; have n0_ := Aside0.mk (Kd.R_lower ho0 (below_size bw_)); have n1_ := Aside0.mk (below_step bw_ hb); clear HB; have HO458 := n0_; have HB := n1_; clear n0_ n1_; (try clear hb); (try clear hb2); (try clear hk); (try clear hi); (try clear ho0); obtain ⟨Ao5, co5, eo5⟩ := Kd.R_slice HO458.out; subst eo5))
 go_loopg [6, 15] k (fun kq v6 v15 w' => ∃ (x6_1 : List Int) (x15_1 : Int), v15 = .int .i64 x15_1 ∧ Aside0 (impl_readNumbers.l0 kq x6_1 t456 (t456.length : Int) x15_1 = some (r1, r2)) ∧ Aside0 (kq ≤ k) ∧ Aside0 (Kd.R (Kd.int .i64) 3 w' w.heap.size (fun _ => True) v6 x6_1) ∧ Aside0 (Kd.R Kd.string 9 w' w.heap.size (fun _ => True) (.slice Ao5 t456.length co5) t456) ∧ Aside0 (Below w.heap.size w w'))
 case atStart => exact ⟨(([] : List Int)), (0), (rs_), H', ⟨Nat.le_refl _⟩, ⟨by first | exact Kd.R_nil _ _ _ _ _ | exact Kd.N_nil _ _ _ _ _ | exact Kd.V_nil _ _ _ _ _ | exact Kd.Q_nil _ _ _ _ _ | exact Kd.S_nil _ _ _ _ _⟩, ⟨by (with_reducible repeat (first | apply Kd.R_alloc | apply Kd.R_drewN | apply Kd.R_drew)); exact HO458.out⟩, ⟨bw_⟩⟩
 case round =>
  clear H'
  try clear p2
  try clear c5
  obtain ⟨x6_1, x15_1, rfl, HA, HK1, HO_6, HO_13, HB⟩ := hrel
  cases gk with
    | zero => exact absurd HA.out (by simp [impl_readNumbers.l0])
    | succ k1 =>
   have H := HA.out
   clear HA
   simp only [impl_readNumbers.l0] at H
   by_cases c6 : x15_1 < (t456.length : Int)
   ·
    rw [if_pos c6] at H
    have c6b0 : decide (x15_1 < (t456.length : Int)) = true := decide_eq_true c6
    clear c6
    by_cases c7 : 0 ≤ x15_1
    ·
     rw [if_pos c7] at H
     have c7b0 : decide (0 ≤ x15_1) = true := decide_eq_true c7
     clear c7
     by_cases c8 : x15_1 < (t456.length : Int)
     ·
      rw [if_pos c8] at H
      have c8b0 : decide (x15_1 < (t456.length : Int)) = true := decide_eq_true c8
      clear c8
      replace H := Option.bind_eq_some_iff.mp H
      obtain ⟨⟨t460, t461⟩, A90, H⟩ := H
      (try dsimp only at H)
      have A9 := Aside0.mk A90
      clear A90
      by_cases c10 : t461 = true
      ·
       subst c10
       rw [if_pos rfl] at H
       by_cases c11 : x6_1.length < 17592186044416
       ·
        rw [if_pos c11] at H
        have LMc11 := Aside0.mk c11
        clear c11
        obtain ⟨y462, hy462⟩ : ∃ y_ : List Int, y_ = (x6_1 ++ [t460]) := ⟨_, rfl⟩
        replace H : (impl_readNumbers.l0 k1 y462 t456 (t456.length : Int) (wrap64 (x15_1 + 1))) = some (r1, r2) := by first | (rw [hy462]; with_reducible exact H) | (have H2_ := (Option.bind_some _ _).symm.trans H; rw [hy462]; with_reducible exact H2_) | (have H2_ := (Option.bind_some _ _).symm.trans H; with_reducible exact H2_) | with_reducible exact H | (rw [hy462]; exact H) | exact H
        have Ny462 := Aside0.mk hy462
        clear hy462
        have H' := Aside0.mk H
        clear H
        have p459 : 0 ≤ (x15_1 : Int) := of_decide_eq_true (by first | (with_reducible assumption) | assumption)
        have q459 : x15_1 < (t456.length : Int) := of_decide_eq_true (by first | (with_reducible assumption) | assumption)
        obtain ⟨ad459, e459, hx459_0⟩ := Kd.at_string (Kd.R_reads' HO_13.out).2.2 x15_1 p459 q459
        cases e459
        replace p459 := eq_true p459
        replace q459 := eq_true q459
        go_wp2_with (first | ((with_reducible refine gate_callee (f := 64) rfl ?_); refine gl_ (some 21) Tryz.func64 #[.string (rdOf ByteArray.empty t456 x15_1)] ?_; (with_reducible refine (impl_readNumber.calls (rdOf ByteArray.empty t456 x15_1) t460 true _ A9.out).mono ?_); rintro e w12 ⟨rfl, hb⟩; refine ⟨_, rfl, ?_⟩; have n0_ := Aside0.mk (Kd.R_below (by (with_reducible repeat (first | apply Kd.R_alloc | apply Kd.R_drewN | apply Kd.R_drew)); exact HO_6.out) hb); have n1_ := Aside0.mk (Kd.R_below (by (with_reducible repeat (first | apply Kd.R_alloc | apply Kd.R_drewN | apply Kd.R_drew)); exact HO_13.out) hb); have n2_ := Aside0.mk (below_step bw_ hb); clear HO_6; clear HO_13; clear HB; have HO_6 := n0_; have HO_13 := n1_; have HB := n2_; clear n0_ n1_ n2_; (try clear hb); (try clear hb2); (try clear hk); (try clear hi)) | ((with_reducible refine gate_builtin (b := .append) (xs := #[.tmp 26, .tmp 28]) rfl ?_); at_builtin; refine Kd.R_append (Kd.int .i64) (w0 := w) w.heap.size rfl (.tmp 26) (.tmp 28) 36 3 (.int .i64 0) 8 rfl Tryz.underlying36 info3 rfl (by decide) (by omega) u6 x6_1 t460 [.int .i64 t460] (fun _ => True) (fun _ => False) rfl rfl ?aP (fun _ hk => hk.elim) ?aF ?aO ?aB ?aS ?aL ?_; (case aP => exact rfl); (case aB => exact bw_); (case aF => exact (fun _ _ => trivial)); (case aO => exact (by (with_reducible repeat (first | apply Kd.R_alloc | apply Kd.R_drewN | apply Kd.R_drew)); exact HO_6.out)); (case aS => exact (below_size bw_)); (case aL => have := LMc11.out; omega); intro v463 w13 ho hb hg hat; rw [← Ny462.out] at ho; have n0_ := Aside0.mk (Kd.R_over' (by (with_reducible repeat (first | apply Kd.R_alloc | apply Kd.R_drewN | apply Kd.R_drew)); exact HO_13.out) (Kd.R_typed (by (with_reducible repeat (first | apply Kd.R_alloc | apply Kd.R_drewN | apply Kd.R_drew)); exact HO_6.out)) (by decide) hg); have n1_ := Aside0.mk (hb); have n2_ := Aside0.mk (ho); clear HO_13; clear HB; clear HO_6; have HO_13 := n0_; have HB := n1_; have HO464 := n2_; clear n0_ n1_ n2_; clear ho hb hg hat))
        go_roundg k1
        case measure => have := HK1.out; omega
        case rel => exact ⟨(y462), (wrap64 (x15_1 + 1)), (rs_), H', ⟨by have := HK1.out; omega⟩, ⟨by (with_reducible repeat (first | apply Kd.R_alloc | apply Kd.R_drewN | apply Kd.R_drew)); exact HO464.out⟩, ⟨by (with_reducible repeat (first | apply Kd.R_alloc | apply Kd.R_drewN | apply Kd.R_drew)); exact HO_13.out⟩, ⟨bw_⟩⟩
       ·
        rw [if_neg c11] at H
        exact absurd H (by simp)
      ·
       replace c10 := Bool.eq_false_iff.mpr c10
       subst c10
       rw [if_neg (show ¬ (false = true) by decide)] at H
       simp only [Option.some.injEq, Prod.mk.injEq] at H
       obtain ⟨rfl, rfl⟩ := H
       have p459 : 0 ≤ (x15_1 : Int) := of_decide_eq_true (by first | (with_reducible assumption) | assumption)
       have q459 : x15_1 < (t456.length : Int) := of_decide_eq_true (by first | (with_reducible assumption) | assumption)
       obtain ⟨ad459, e459, hx459_0⟩ := Kd.at_string (Kd.R_reads' HO_13.out).2.2 x15_1 p459 q459
       cases e459
       replace p459 := eq_true p459
       replace q459 := eq_true q459
       go_wp2_with (first | ((with_reducible refine gate_callee (f := 64) rfl ?_); refine gl_ (some 21) Tryz.func64 #[.string (rdOf ByteArray.empty t456 x15_1)] ?_; (with_reducible refine (impl_readNumber.calls (rdOf ByteArray.empty t456 x15_1) t460 false _ A9.out).mono ?_); rintro e w14 ⟨rfl, hb⟩; refine ⟨_, rfl, ?_⟩; have n0_ := Aside0.mk (Kd.R_below (by (with_reducible repeat (first | apply Kd.R_alloc | apply Kd.R_drewN | apply Kd.R_drew)); exact HO_6.out) hb); have n1_ := Aside0.mk (Kd.R_below (by (with_reducible repeat (first | apply Kd.R_alloc | apply Kd.R_drewN | apply Kd.R_drew)); exact HO_13.out) hb); have n2_ := Aside0.mk (below_step bw_ hb); clear HO_6; clear HO_13; clear HB; have HO_6 := n0_; have HO_13 := n1_; have HB := n2_; clear n0_ n1_ n2_; (try clear hb); (try clear hb2); (try clear hk); (try clear hi)))
       go_ret2
       exact ⟨_, rt_, by first | exact Kd.R_nil _ _ _ _ _ | exact Kd.N_nil _ _ _ _ _ | exact Kd.V_nil _ _ _ _ _ | exact Kd.Q_nil _ _ _ _ _ | exact Kd.S_nil _ _ _ _ _, bw_⟩
     ·
      rw [if_neg c8] at H
      exact absurd H (by simp)
    ·
     rw [if_neg c7] at H
     exact absurd H (by simp)
   ·
    rw [if_neg c6] at H
    have c6b0 : decide (x15_1 < (t456.length : Int)) = false := decide_eq_false c6
    clear c6
    simp only [Option.some.injEq, Prod.mk.injEq] at H
    obtain ⟨rfl, rfl⟩ := H
    go_wp2
    go_ret2
    exact ⟨_, rt_, by (with_reducible repeat (first | apply Kd.R_alloc | apply Kd.R_drewN | apply Kd.R_drew)); exact HO_6.out, bw_⟩

end Go.Proofs.YtajlcomankjcjadGreatDoor.PFnDogsChase
