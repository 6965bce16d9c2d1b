/- Functions of the translation as Lean functions, each with a proof that a call answers so; out of the seat, by this claim's own program prt.py: the last of them, in one text. -/
import Derived.Test.YtfeloencepgdlaaGreatDoorWTab
import Derived.Test.YtfeloencepgdlaaGreatDoorWRepsOne
import Derived.Test.YtfeloencepgdlaaGreatDoorQx0
import Derived.Test.YtfeloencepgdlaaGreatDoorQx25
import Derived.Test.YtfeloencepgdlaaGreatDoorQStep
import Derived.Test.YtfeloencepgdlaaGreatDoorQx26
import Derived.Test.YtfeloencepgdlaaGreatDoorQx21
import Derived.Test.YtfeloencepgdlaaGreatDoorQx3
import Derived.Test.YtfeloencepgdlaaGreatDoorQx4
import Derived.Test.YtfeloencepgdlaaGreatDoorQx16
import Derived.Test.YtfeloencepgdlaaGreatDoorQx17
import Derived.Test.YtfeloencepgdlaaGreatDoorQx18
namespace Go.Proofs.YtfeloencepgdlaaGreatDoor.Q
open Go.RowKit Go.Proofs.YtfeloencepgdlaaGreatDoorW.PrintWords Go.Proofs.YtfeloencepgdlaaGreatDoorW.PrintLast Go.Proofs.YtfeloencepgdlaaGreatDoorW.PrintMore
attribute [local go_sem] max2_int min2_int max_two min_two max_three min_three max_four min_four   -- for this text's walks alone
set_option linter.unusedVariables false
set_option linter.unusedSimpArgs false

/-! ### impl_symText: function 53 -/
def impl_symText.f (a0_0 : Int) (a0_1 : Int) (l1 : List ByteArray) : Option (ByteArray) := if a0_0 = 0 then ((strconv_Itoa.f a0_1).bind fun t356 => (some t356)) else (if a0_1 < 0 then (if 0 ≤ (wrap64 (a0_0 - 1)) then (if (wrap64 (a0_0 - 1)) < (l1.length : Int) then (if (rdOf ByteArray.empty l1 (wrap64 (a0_0 - 1))).size + 3 ≤ 9223372036854775807 then ((strconv_Itoa.f (wrap64 (-a0_1))).bind fun t358 => (if (rdOf ByteArray.empty l1 (wrap64 (a0_0 - 1))).size + 3 + t358.size ≤ 9223372036854775807 then (some (((rdOf ByteArray.empty l1 (wrap64 (a0_0 - 1))) ++ (⟨#[32, 45, 32]⟩ : ByteArray)) ++ t358)) else (none))) else (none)) else (none)) else (none)) else (if a0_1 > 0 then (if 0 ≤ (wrap64 (a0_0 - 1)) then (if (wrap64 (a0_0 - 1)) < (l1.length : Int) then (if (rdOf ByteArray.empty l1 (wrap64 (a0_0 - 1))).size + 3 ≤ 9223372036854775807 then ((strconv_Itoa.f a0_1).bind fun t360 => (if (rdOf ByteArray.empty l1 (wrap64 (a0_0 - 1))).size + 3 + t360.size ≤ 9223372036854775807 then (some (((rdOf ByteArray.empty l1 (wrap64 (a0_0 - 1))) ++ (⟨#[32, 43, 32]⟩ : ByteArray)) ++ t360)) else (none))) else (none)) else (none)) else (none)) else (if 0 ≤ (wrap64 (a0_0 - 1)) then (if (wrap64 (a0_0 - 1)) < (l1.length : Int) then (some (rdOf ByteArray.empty l1 (wrap64 (a0_0 - 1)))) else (none)) else (none))))
def impl_symText.T4 : Bool × List (List Nat × List Nat) := (true, [([], []), ([], []), ([1], [1]), ([2], [2]), ([0, 3], [0, 3]), ([4], [4]), ([5], [5]), ([], []), ([7], [7]), ([8], [8]), ([9], [9]), ([6, 10], [6, 10]), ([11, 10, 0, 1, 2, 3, 4, 5, 6, 7, 8, 9, 10, 11], [11])])
def impl_symText.B4 : List Nat := [0, 0, 2, 6, 15, 31, 63, 0, 128, 384, 896, 2047, 4095]
theorem impl_symText.tab4 : rtab .any (opsOf Tryz.f53 4) = impl_symText.T4 := by kernel_rfl
theorem impl_symText.bits4 : waitsOk impl_symText.T4.2 impl_symText.B4 = true := by kernel_rfl
def impl_symText.T6 : Bool × List (List Nat × List Nat) := (true, [([], []), ([], []), ([1], [1]), ([2], [2]), ([0, 3], [0, 3]), ([4], [4]), ([5], [5]), ([], []), ([7], [7]), ([8], [8]), ([6, 9], [6, 9]), ([10, 9, 0, 1, 2, 3, 4, 5, 6, 7, 8, 9, 10], [10])])
def impl_symText.B6 : List Nat := [0, 0, 2, 6, 15, 31, 63, 0, 128, 384, 1023, 2047]
theorem impl_symText.tab6 : rtab .any (opsOf Tryz.f53 6) = impl_symText.T6 := by kernel_rfl
theorem impl_symText.bits6 : waitsOk impl_symText.T6.2 impl_symText.B6 = true := by kernel_rfl
set_option maxHeartbeats 8000000 in
set_option maxRecDepth 100000 in
theorem impl_symText.calls (a0_0 : Int) (a0_1 : Int) (A1 : Option Addr) (c1 : Nat) (l1 : List ByteArray) (r : ByteArray) (w : World) (hG4 : GL4 w) (hr1 : Kd.C Kd.string w A1 l1.length l1) (hc1 : l1.length ≤ c1) (h : impl_symText.f a0_0 a0_1 l1 = some r) :
  Calls Tryz.prog 53 #[.agg #[.int .i64 a0_0, .int .i64 a0_1], .slice A1 l1.length c1] w fun e w' => e = .returned (.string r) ∧ Below w.heap.size w w' := by
 have hu59 := Tryz.underlying59; have HR1 := Aside0.mk hr1; have HC1 := Aside0.mk hc1; clear hr1 hc1; have HB := Aside0.mk (Below.refl w.heap.size w); have HG4 := Aside0.mk hG4; clear hG4; have H : (if a0_0 = 0 then ((strconv_Itoa.f a0_1).bind fun t356 => (some t356)) else (if a0_1 < 0 then (if 0 ≤ (wrap64 (a0_0 - 1)) then (if (wrap64 (a0_0 - 1)) < (l1.length : Int) then (if (rdOf ByteArray.empty l1 (wrap64 (a0_0 - 1))).size + 3 ≤ 9223372036854775807 then ((strconv_Itoa.f (wrap64 (-a0_1))).bind fun t358 => (if (rdOf ByteArray.empty l1 (wrap64 (a0_0 - 1))).size + 3 + t358.size ≤ 9223372036854775807 then (some (((rdOf ByteArray.empty l1 (wrap64 (a0_0 - 1))) ++ (⟨#[32, 45, 32]⟩ : ByteArray)) ++ t358)) else (none))) else (none)) else (none)) else (none)) else (if a0_1 > 0 then (if 0 ≤ (wrap64 (a0_0 - 1)) then (if (wrap64 (a0_0 - 1)) < (l1.length : Int) then (if (rdOf ByteArray.empty l1 (wrap64 (a0_0 - 1))).size + 3 ≤ 9223372036854775807 then ((strconv_Itoa.f a0_1).bind fun t360 => (if (rdOf ByteArray.empty l1 (wrap64 (a0_0 - 1))).size + 3 + t360.size ≤ 9223372036854775807 then (some (((rdOf ByteArray.empty l1 (wrap64 (a0_0 - 1))) ++ (⟨#[32, 43, 32]⟩ : ByteArray)) ++ t360)) else (none))) else (none)) else (none)) else (none)) else (if 0 ≤ (wrap64 (a0_0 - 1)) then (if (wrap64 (a0_0 - 1)) < (l1.length : Int) then (some (rdOf ByteArray.empty l1 (wrap64 (a0_0 - 1)))) else (none)) else (none))))) = some r := h; clear h
 by_cases c3 : a0_0 = 0
 ·
  rw [if_pos c3] at H; have c3b0 : (a0_0 == 0) = true := beq_iff_eq.mpr c3; have c3b1 : (a0_0 != 0) = false := bne_eq_false_iff_eq.mpr c3; clear c3; replace H := Option.bind_eq_some_iff.mp H; obtain ⟨t356, A40, H⟩ := H; replace H : (some t356) = some r := H; have A4 := Aside0.mk A40; clear A40; obtain rfl := Option.some.inj H
  go_enter Tryz.func53, Tryz.ntmps53
  go_wp2_with (first | ((with_reducible refine gate_dst (N := 2) rfl ?_); refine box_y 2 #[.int .i64 a0_0, .int .i64 a0_1] 59 (h := ?_); intro gb355 hg w5 hbox hb; have n0_ := Aside0.mk (below_step (sq_below HB.out) hb); have n1_ := Aside0.mk (hbox); have n2_ := ge_ hg (below_size (sq_below HB.out)); have n3_ := ge_ hg (below_size (sq_below HB.out)); clear HB; have HB := n0_; have BK355 := n1_; have GW355 := n2_; have GE355 := n3_; clear n0_ n1_ n2_ n3_; clear hb hbox hg; have hcz6_0 := cl_ (v := .int .i64 a0_0) BK355 0; have hcz6_1 := cl_ (v := .int .i64 a0_1) BK355 1; have hfz6_0 := blk_frozen BK355.out 0; have hfz6_1 := blk_frozen BK355.out 1) | ((with_reducible refine gate_callee (f := 79) rfl ?_); refine gl_ 11 Tryz.func79 #[.int .i64 a0_1] (h := ?_); (with_reducible refine (strconv_Itoa.calls a0_1 t356 _ ?side1 A4.out).mono ?_); (case side1 => exact GL4.below HG4.out (sq_below HB.out)); rintro e w7 ⟨rfl, hb⟩; refine ⟨_, rfl, ?_⟩; replace HB := hb_ HB hb; (try clear hb)))
  go_ret
  exact ⟨by first | rfl | (simp [errW_none, errW_some] <;> rfl) | (simp [*, errW_none, errW_some] <;> rfl), sq_below HB.out⟩
 ·
  rw [if_neg c3] at H; have c3b0 : (a0_0 == 0) = false := beq_eq_false_iff_ne.mpr c3; have c3b1 : (a0_0 != 0) = true := bne_iff_ne.mpr c3
  by_cases c8 : a0_1 < 0
  ·
   rw [if_pos c8] at H; have c8b0 : decide (a0_1 < 0) = true := decide_eq_true c8; clear c8; obtain ⟨ji9, hji9⟩ : ∃ j_ : Int, (wrap64 (a0_0 - 1)) = j_ := ⟨_, rfl⟩; replace H : (if 0 ≤ (ji9) then (if (ji9) < (l1.length : Int) then (if (rdOf ByteArray.empty l1 (ji9)).size + 3 ≤ 9223372036854775807 then ((strconv_Itoa.f (wrap64 (-a0_1))).bind fun t358 => (if (rdOf ByteArray.empty l1 (ji9)).size + 3 + t358.size ≤ 9223372036854775807 then (some (((rdOf ByteArray.empty l1 (ji9)) ++ (⟨#[32, 45, 32]⟩ : ByteArray)) ++ t358)) else (none))) else (none)) else (none)) else (none)) = some r := by first | (rw [hji9] at H; exact H) | (simp only [hji9] at H ⊢; exact H)
   have hji9w : (IntKind.i64.wrap (a0_0 - 1)) = ji9 := (i64_w _).trans hji9
   by_cases c10 : 0 ≤ (ji9)
   ·
    rw [if_pos c10] at H; have c10b0 : decide (0 ≤ (ji9)) = true := decide_eq_true c10; clear c10
    by_cases c11 : (ji9) < (l1.length : Int)
    ·
     rw [if_pos c11] at H; have c11b0 : decide ((ji9) < (l1.length : Int)) = true := decide_eq_true c11; clear c11
     by_cases c12 : (rdOf ByteArray.empty l1 (ji9)).size + 3 ≤ 9223372036854775807
     ·
      rw [if_pos c12] at H; have c12b0 := eq_true c12; have c12b1 : decide ((rdOf ByteArray.empty l1 (ji9)).size + 3 ≤ 9223372036854775807) = true := decide_eq_true c12
      try have c12b2 : (9223372036854775807 < (rdOf ByteArray.empty l1 (ji9)).size + 3) = False := eq_false (Nat.not_lt.2 c12)
      replace H := Option.bind_eq_some_iff.mp H; obtain ⟨t358, A130, H⟩ := H; (try dsimp only at H); have A13 := Aside0.mk A130; clear A130
      by_cases c14 : (rdOf ByteArray.empty l1 (ji9)).size + 3 + t358.size ≤ 9223372036854775807
      ·
       rw [if_pos c14] at H; have c14b0 := eq_true c14; have c14b1 : decide ((rdOf ByteArray.empty l1 (ji9)).size + 3 + t358.size ≤ 9223372036854775807) = true := decide_eq_true c14
       try have c14b2 : (9223372036854775807 < (rdOf ByteArray.empty l1 (ji9)).size + 3 + t358.size) = False := eq_false (Nat.not_lt.2 c14)
       obtain rfl := Option.some.inj H
       go_enter Tryz.func53, Tryz.ntmps53
       try go_wp2_with (first | ((with_reducible refine gate_dst (N := 2) rfl ?_); refine box_y 2 #[.int .i64 a0_0, .int .i64 a0_1] 59 (h := ?_); intro gb355 hg w15 hbox hb; have n0_ := Aside0.mk (below_step (sq_below HB.out) hb); have n1_ := Aside0.mk (hbox); have n2_ := ge_ hg (below_size (sq_below HB.out)); have n3_ := ge_ hg (below_size (sq_below HB.out)); clear HB; have HB := n0_; have BK355 := n1_; have GW355 := n2_; have GE355 := n3_; clear n0_ n1_ n2_ n3_; clear hb hbox hg; have hcz16_0 := cl_ (v := .int .i64 a0_0) BK355 0; have hcz16_1 := cl_ (v := .int .i64 a0_1) BK355 1; have hfz16_0 := blk_frozen BK355.out 0; have hfz16_1 := blk_frozen BK355.out 1))
       replace BK355 := bd_ BK355; replace HB := hd_ HB; have p357 : 0 ≤ ((ji9) : Int) := sq_dec; have q357 : (ji9) < (l1.length : Int) := sq_dec; obtain ⟨ad357, e357, hx357_0⟩ := Kd.at_string HR1.out (ji9) p357 q357; have hw357_0 := hx357_0; cases e357; replace hx357_0 := (HB.out.cell (World.block_lt_of_cell? w _ hx357_0)).trans hx357_0; replace p357 := eq_true p357; replace q357 := eq_true q357; refine start_ (n := 13) (S := fun w' => w'.cell? ⟨gb355, 0, none⟩ = some (.int .i64 a0_0) ∧ w'.cell? ⟨gb355, 1, none⟩ = some (.int .i64 a0_1) ∧ w'.cell? (ad357.add ((ji9)).toNat) = some (.string (rdOf ByteArray.empty l1 (ji9)))) (ds := []) #[false, false, false, false, false, false, false, false, false, false, false, false, false] (by kernel_rfl) rfl rfl ⟨cl_ BK355 0, cl_ BK355 1, ((HB.out.cell (World.block_lt_of_cell? w _ hw357_0)).trans hw357_0)⟩ (fun hHeld => ?_); refine with_tabW impl_symText.tab4 impl_symText.bits4 (fun HT_ HW_ => ?_); generalize w15.drew = w17 at BK355 HB hx357_0 hHeld ⊢; refine pure_y 0 (some 16) #[true, false, false, false, false, false, false, false, false, false, false, false, false] (any_of HT_.out (by kernel_rfl)) (h := ?_)
       refine pure_y 1 (some 17) #[true, true, false, false, false, false, false, false, false, false, false, false, false] (any_of HT_.out (by kernel_rfl)) (h := ?_)
       refine pure_y 7 (some 23) #[true, true, false, false, false, false, false, true, false, false, false, false, false] (any_of HT_.out (by kernel_rfl)) (h := ?_)
       refine take_y 2 (some 18) #[true, true, true, false, false, false, false, true, false, false, false, false, false] rfl (take_ofW HT_.out HW_.out (by kernel_rfl)) hHeld (Or.inl ⟨by rfl, (by rintro w' ⟨s0, s1, s2⟩; go_simp; with_reducible rfl)⟩) (h := ?_)
       refine pure_y 3 (some 19) #[true, true, true, true, false, false, false, true, false, false, false, false, false] (any_of HT_.out (by kernel_rfl)) (h := ?_)
       refine pure_y 4 (some 20) #[true, true, true, true, true, false, false, true, false, false, false, false, false] (any_of HT_.out (by kernel_rfl)) (h := ?_)
       refine take_y 5 (some 21) #[true, true, true, true, true, true, false, true, false, false, false, false, false] rfl (take_ofW HT_.out HW_.out (by kernel_rfl)) hHeld (Or.inl ⟨by rfl, (by rintro w' ⟨s0, s1, s2⟩; go_simp; with_reducible rfl)⟩) (h := ?_)
       refine pure_y 6 (some 22) #[true, true, true, true, true, true, true, true, false, false, false, false, false] (any_of HT_.out (by kernel_rfl)) (h := ?_)
       refine take_y 8 (some 24) #[true, true, true, true, true, true, true, true, true, false, false, false, false] rfl (take_ofW HT_.out HW_.out (by kernel_rfl)) hHeld (Or.inl ⟨by rfl, (by rintro w' ⟨s0, s1, s2⟩; go_simp; with_reducible rfl)⟩) (h := ?_)
       refine pure_y 9 (some 25) #[true, true, true, true, true, true, true, true, true, true, false, false, false] (any_of HT_.out (by kernel_rfl)) (h := ?_)
       refine one_ (i := 10) (N := some 26) #[true, true, true, true, true, true, true, true, true, true, true, false, false] rfl rfl (one_of HT_.out (by kernel_rfl)) (by decide) (fun K hK => ?_); refine gs_ Tryz.func79 #[.int .i64 (wrap64 (-a0_1))] (h := ?_); with_reducible refine (strconv_Itoa.calls (wrap64 (-a0_1)) t358 _ ?side1 A13.out).mono ?_
       (case side1 => exact GL4.below HG4.out (sq_below1 HB.out GE355.out))
       rintro e w18 ⟨rfl, hb⟩; refine ⟨_, rfl, ?_⟩; replace BK355 := bb_ BK355 hb; replace HB := hb1_ HB hb GE355
       (try clear hb)
       (try clear hb2)
       (try clear hk)
       (try clear hi)
       refine hK.out _ _ ⟨cl_ BK355 0, cl_ BK355 1, ((HB.out.cell (World.block_lt_of_cell? w _ hw357_0)).trans hw357_0)⟩ (fun hHeld => ?_); clear hK K; refine norm_y 26 (h := ?_)
       refine pure_y 11 (some 27) #[true, true, true, true, true, true, true, true, true, true, true, true, false] (any_of HT_.out (by kernel_rfl)) (h := ?_)
       refine pure_y 12 (some 4) #[true, true, true, true, true, true, true, true, true, true, true, true, true] (any_of HT_.out (by kernel_rfl)) (h := ?_)
       refine done_ (done_of HT_.out (by kernel_rfl)) ?_
       try go_wp2
       go_ret
       exact ⟨by first | rfl | (simp [errW_none, errW_some] <;> rfl) | (simp only [← hji9]; first | rfl | (simp [errW_none, errW_some] <;> rfl)) | (simp [*, errW_none, errW_some] <;> rfl), sq_below1 HB.out GE355.out⟩
      ·
       rw [if_neg c14] at H; exact absurd H (by simp)
     ·
      rw [if_neg c12] at H; exact absurd H (by simp)
    ·
     rw [if_neg c11] at H; exact absurd H (by simp)
   ·
    rw [if_neg c10] at H; exact absurd H (by simp)
  ·
   rw [if_neg c8] at H; have c8b0 : decide (a0_1 < 0) = false := decide_eq_false c8; clear c8
   by_cases c19 : a0_1 > 0
   ·
    rw [if_pos c19] at H; have c19b0 : decide (0 < a0_1) = true := decide_eq_true c19; clear c19; obtain ⟨ji20, hji20⟩ : ∃ j_ : Int, (wrap64 (a0_0 - 1)) = j_ := ⟨_, rfl⟩; replace H : (if 0 ≤ (ji20) then (if (ji20) < (l1.length : Int) then (if (rdOf ByteArray.empty l1 (ji20)).size + 3 ≤ 9223372036854775807 then ((strconv_Itoa.f a0_1).bind fun t360 => (if (rdOf ByteArray.empty l1 (ji20)).size + 3 + t360.size ≤ 9223372036854775807 then (some (((rdOf ByteArray.empty l1 (ji20)) ++ (⟨#[32, 43, 32]⟩ : ByteArray)) ++ t360)) else (none))) else (none)) else (none)) else (none)) = some r := by first | (rw [hji20] at H; exact H) | (simp only [hji20] at H ⊢; exact H)
    have hji20w : (IntKind.i64.wrap (a0_0 - 1)) = ji20 := (i64_w _).trans hji20
    by_cases c21 : 0 ≤ (ji20)
    ·
     rw [if_pos c21] at H; have c21b0 : decide (0 ≤ (ji20)) = true := decide_eq_true c21; clear c21
     by_cases c22 : (ji20) < (l1.length : Int)
     ·
      rw [if_pos c22] at H; have c22b0 : decide ((ji20) < (l1.length : Int)) = true := decide_eq_true c22; clear c22
      by_cases c23 : (rdOf ByteArray.empty l1 (ji20)).size + 3 ≤ 9223372036854775807
      ·
       rw [if_pos c23] at H; have c23b0 := eq_true c23; have c23b1 : decide ((rdOf ByteArray.empty l1 (ji20)).size + 3 ≤ 9223372036854775807) = true := decide_eq_true c23
       try have c23b2 : (9223372036854775807 < (rdOf ByteArray.empty l1 (ji20)).size + 3) = False := eq_false (Nat.not_lt.2 c23)
       replace H := Option.bind_eq_some_iff.mp H; obtain ⟨t360, A240, H⟩ := H; (try dsimp only at H); have A24 := Aside0.mk A240; clear A240
       by_cases c25 : (rdOf ByteArray.empty l1 (ji20)).size + 3 + t360.size ≤ 9223372036854775807
       ·
        rw [if_pos c25] at H; have c25b0 := eq_true c25; have c25b1 : decide ((rdOf ByteArray.empty l1 (ji20)).size + 3 + t360.size ≤ 9223372036854775807) = true := decide_eq_true c25
        try have c25b2 : (9223372036854775807 < (rdOf ByteArray.empty l1 (ji20)).size + 3 + t360.size) = False := eq_false (Nat.not_lt.2 c25)
        obtain rfl := Option.some.inj H
        go_enter Tryz.func53, Tryz.ntmps53
        try go_wp2_with (first | ((with_reducible refine gate_dst (N := 2) rfl ?_); refine box_y 2 #[.int .i64 a0_0, .int .i64 a0_1] 59 (h := ?_); intro gb355 hg w26 hbox hb; have n0_ := Aside0.mk (below_step (sq_below HB.out) hb); have n1_ := Aside0.mk (hbox); have n2_ := ge_ hg (below_size (sq_below HB.out)); have n3_ := ge_ hg (below_size (sq_below HB.out)); clear HB; have HB := n0_; have BK355 := n1_; have GW355 := n2_; have GE355 := n3_; clear n0_ n1_ n2_ n3_; clear hb hbox hg; have hcz27_0 := cl_ (v := .int .i64 a0_0) BK355 0; have hcz27_1 := cl_ (v := .int .i64 a0_1) BK355 1; have hfz27_0 := blk_frozen BK355.out 0; have hfz27_1 := blk_frozen BK355.out 1))
        replace BK355 := bd_ BK355; replace HB := hd_ HB; have p359 : 0 ≤ ((ji20) : Int) := sq_dec; have q359 : (ji20) < (l1.length : Int) := sq_dec; obtain ⟨ad359, e359, hx359_0⟩ := Kd.at_string HR1.out (ji20) p359 q359; have hw359_0 := hx359_0; cases e359; replace hx359_0 := (HB.out.cell (World.block_lt_of_cell? w _ hx359_0)).trans hx359_0; replace p359 := eq_true p359; replace q359 := eq_true q359; refine start_ (n := 12) (S := fun w' => w'.cell? ⟨gb355, 0, none⟩ = some (.int .i64 a0_0) ∧ w'.cell? ⟨gb355, 1, none⟩ = some (.int .i64 a0_1) ∧ w'.cell? (ad359.add ((ji20)).toNat) = some (.string (rdOf ByteArray.empty l1 (ji20)))) (ds := []) #[false, false, false, false, false, false, false, false, false, false, false, false] (by kernel_rfl) rfl rfl ⟨cl_ BK355 0, cl_ BK355 1, ((HB.out.cell (World.block_lt_of_cell? w _ hw359_0)).trans hw359_0)⟩ (fun hHeld => ?_); refine with_tabW impl_symText.tab6 impl_symText.bits6 (fun HT_ HW_ => ?_); generalize w26.drew = w28 at BK355 HB hx359_0 hHeld ⊢; refine pure_y 0 (some 32) #[true, false, false, false, false, false, false, false, false, false, false, false] (any_of HT_.out (by kernel_rfl)) (h := ?_)
        refine pure_y 1 (some 33) #[true, true, false, false, false, false, false, false, false, false, false, false] (any_of HT_.out (by kernel_rfl)) (h := ?_)
        refine pure_y 7 (some 39) #[true, true, false, false, false, false, false, true, false, false, false, false] (any_of HT_.out (by kernel_rfl)) (h := ?_)
        refine take_y 2 (some 34) #[true, true, true, false, false, false, false, true, false, false, false, false] rfl (take_ofW HT_.out HW_.out (by kernel_rfl)) hHeld (Or.inl ⟨by rfl, (by rintro w' ⟨s0, s1, s2⟩; go_simp; with_reducible rfl)⟩) (h := ?_)
        refine pure_y 3 (some 35) #[true, true, true, true, false, false, false, true, false, false, false, false] (any_of HT_.out (by kernel_rfl)) (h := ?_)
        refine pure_y 4 (some 36) #[true, true, true, true, true, false, false, true, false, false, false, false] (any_of HT_.out (by kernel_rfl)) (h := ?_)
        refine take_y 5 (some 37) #[true, true, true, true, true, true, false, true, false, false, false, false] rfl (take_ofW HT_.out HW_.out (by kernel_rfl)) hHeld (Or.inl ⟨by rfl, (by rintro w' ⟨s0, s1, s2⟩; go_simp; with_reducible rfl)⟩) (h := ?_)
        refine pure_y 6 (some 38) #[true, true, true, true, true, true, true, true, false, false, false, false] (any_of HT_.out (by kernel_rfl)) (h := ?_)
        refine take_y 8 (some 40) #[true, true, true, true, true, true, true, true, true, false, false, false] rfl (take_ofW HT_.out HW_.out (by kernel_rfl)) hHeld (Or.inl ⟨by rfl, (by rintro w' ⟨s0, s1, s2⟩; go_simp; with_reducible rfl)⟩) (h := ?_)
        refine one_ (i := 9) (N := some 41) #[true, true, true, true, true, true, true, true, true, true, false, false] rfl rfl (one_of HT_.out (by kernel_rfl)) (by decide) (fun K hK => ?_); refine gs_ Tryz.func79 #[.int .i64 a0_1] (h := ?_); with_reducible refine (strconv_Itoa.calls a0_1 t360 _ ?side1 A24.out).mono ?_
        (case side1 => exact GL4.below HG4.out (sq_below1 HB.out GE355.out))
        rintro e w29 ⟨rfl, hb⟩; refine ⟨_, rfl, ?_⟩; replace BK355 := bb_ BK355 hb; replace HB := hb1_ HB hb GE355
        (try clear hb)
        (try clear hb2)
        (try clear hk)
        (try clear hi)
        refine hK.out _ _ ⟨cl_ BK355 0, cl_ BK355 1, ((HB.out.cell (World.block_lt_of_cell? w _ hw359_0)).trans hw359_0)⟩ (fun hHeld => ?_); clear hK K; refine norm_y 41 (h := ?_)
        refine pure_y 10 (some 42) #[true, true, true, true, true, true, true, true, true, true, true, false] (any_of HT_.out (by kernel_rfl)) (h := ?_)
        refine pure_y 11 (some 4) #[true, true, true, true, true, true, true, true, true, true, true, true] (any_of HT_.out (by kernel_rfl)) (h := ?_)
        refine done_ (done_of HT_.out (by kernel_rfl)) ?_
        try go_wp2
        go_ret
        exact ⟨by first | rfl | (simp [errW_none, errW_some] <;> rfl) | (simp only [← hji20]; first | rfl | (simp [errW_none, errW_some] <;> rfl)) | (simp [*, errW_none, errW_some] <;> rfl), sq_below1 HB.out GE355.out⟩
       ·
        rw [if_neg c25] at H; exact absurd H (by simp)
      ·
       rw [if_neg c23] at H; exact absurd H (by simp)
     ·
      rw [if_neg c22] at H; exact absurd H (by simp)
    ·
     rw [if_neg c21] at H; exact absurd H (by simp)
   ·
    rw [if_neg c19] at H; have c19b0 : decide (0 < a0_1) = false := decide_eq_false c19; clear c19; obtain ⟨ji30, hji30⟩ : ∃ j_ : Int, (wrap64 (a0_0 - 1)) = j_ := ⟨_, rfl⟩; replace H : (if 0 ≤ (ji30) then (if (ji30) < (l1.length : Int) then (some (rdOf ByteArray.empty l1 (ji30))) else (none)) else (none)) = some r := by first | (rw [hji30] at H; exact H) | (simp only [hji30] at H ⊢; exact H)
    have hji30w : (IntKind.i64.wrap (a0_0 - 1)) = ji30 := (i64_w _).trans hji30
    by_cases c31 : 0 ≤ (ji30)
    ·
     rw [if_pos c31] at H; have c31b0 : decide (0 ≤ (ji30)) = true := decide_eq_true c31; clear c31
     by_cases c32 : (ji30) < (l1.length : Int)
     ·
      rw [if_pos c32] at H; have c32b0 : decide ((ji30) < (l1.length : Int)) = true := decide_eq_true c32; clear c32; obtain rfl := Option.some.inj H
      go_enter Tryz.func53, Tryz.ntmps53
      go_wp2_with (first | ((with_reducible refine gate_dst (N := 2) rfl ?_); refine box_y 2 #[.int .i64 a0_0, .int .i64 a0_1] 59 (h := ?_); intro gb355 hg w33 hbox hb; have n0_ := Aside0.mk (below_step (sq_below HB.out) hb); have n1_ := Aside0.mk (hbox); have n2_ := ge_ hg (below_size (sq_below HB.out)); have n3_ := ge_ hg (below_size (sq_below HB.out)); clear HB; have HB := n0_; have BK355 := n1_; have GW355 := n2_; have GE355 := n3_; clear n0_ n1_ n2_ n3_; clear hb hbox hg; have hcz34_0 := cl_ (v := .int .i64 a0_0) BK355 0; have hcz34_1 := cl_ (v := .int .i64 a0_1) BK355 1; have hfz34_0 := blk_frozen BK355.out 0; have hfz34_1 := blk_frozen BK355.out 1; have p361 : 0 ≤ ((ji30) : Int) := sq_dec; have q361 : (ji30) < (l1.length : Int) := sq_dec; obtain ⟨ad361, e361, hx361_0⟩ := Kd.at_string HR1.out (ji30) p361 q361; cases e361; replace hx361_0 := (HB.out.cell (World.block_lt_of_cell? w _ hx361_0)).trans hx361_0; replace p361 := eq_true p361; replace q361 := eq_true q361))
      go_ret
      exact ⟨by first | rfl | (simp [errW_none, errW_some] <;> rfl) | (simp only [← hji30]; first | rfl | (simp [errW_none, errW_some] <;> rfl)) | (simp [*, errW_none, errW_some] <;> rfl), sq_below HB.out⟩
     ·
      rw [if_neg c32] at H; exact absurd H (by simp)
    ·
     rw [if_neg c31] at H; exact absurd H (by simp)

end Go.Proofs.YtfeloencepgdlaaGreatDoor.Q
namespace Go.Proofs.YtfeloencepgdlaaGreatDoor.Q
open Go.RowKit Go.Proofs.YtfeloencepgdlaaGreatDoorW.PrintWords Go.Proofs.YtfeloencepgdlaaGreatDoorW.PrintLast Go.Proofs.YtfeloencepgdlaaGreatDoorW.PrintMore
attribute [local go_sem] max2_int min2_int max_two min_two max_three min_three max_four min_four   -- for this text's walks alone
set_option linter.unusedVariables false
set_option linter.unusedSimpArgs false

/-! ### strings_Join: function 54 -/
def strings_Join.f (a0 : List ByteArray) (a1 : ByteArray) : Option ByteArray := if a0.length ≤ 140737488355328 ∧ (Lib.join (a0.map (·.data.toList)) a1.data.toList).length ≤ 140737488355328 then some ⟨(Lib.join (a0.map (·.data.toList)) a1.data.toList).toArray⟩ else none
theorem strings_Join.calls (A0 : Option Addr) (c0 : Nat) (l0 : List ByteArray) (a1 : ByteArray) (r : ByteArray) (w : World) (hr0 : Kd.C Kd.string w A0 l0.length l0) (hc0 : l0.length ≤ c0) (h : strings_Join.f l0 a1 = some r) :
  Calls Tryz.prog 54 #[.slice A0 l0.length c0, .string a1] w fun e w' => e = .returned (.string r) ∧ Below w.heap.size w w' := by
 unfold strings_Join.f at h
 split at h
 ·
  rename_i hs
  injection h with h
  subst h
  rcases Nat.eq_zero_or_pos l0.length with h0 | h0
  ·
   obtain rfl := List.eq_nil_of_length_eq_zero h0; refine (Tryz.strings_Join_none A0 c0 a1 w).mono ?_; rintro e w' ⟨rfl, rfl⟩; exact ⟨rfl, Below.refl _ _⟩
  ·
   obtain ⟨⟨bk, o, p⟩, rfl, hcells⟩ := hr0.2.2 h0
   have rd : ∀ (j : Nat) x, l0[j]? = some x → w.cell? ((⟨bk, o, p⟩ : Addr).add j) = some (.string x) := by
    intro j x hj; obtain ⟨c, hc1, hK, hce⟩ := hcells j x hj; obtain rfl : c = [.string x] := hK; have q := hce 0 (.string x) rfl
    rwa [show j * Kd.string.sz + 0 = j from Nat.mul_one j] at q
   have e0 := rd 0 _ (List.getElem?_eq_getElem h0)
   have hp : p = none := by
    cases p with
    | none => rfl
    | some q =>
     simp only [Addr.add, World.cell?] at e0
     split at e0 <;> simp at e0
   subst hp; refine (Tryz.strings_Join bk o c0 l0 a1 w (fun j x hj => ?_) ?_ hs.1 hc0 hs.2).mono fun e w' h => h
   ·
    have q := rd j x hj
    by_cases hj0 : j = 0
    ·
     subst hj0; simpa [Addr.add] using q
    ·
     simpa [Addr.add, hj0] using q
   ·
    exact World.block_lt_of_cell? w _ e0
 ·
  cases h

end Go.Proofs.YtfeloencepgdlaaGreatDoor.Q
namespace Go.Proofs.YtfeloencepgdlaaGreatDoor.Q
open Go.RowKit Go.Proofs.YtfeloencepgdlaaGreatDoorW.PrintWords Go.Proofs.YtfeloencepgdlaaGreatDoorW.PrintLast Go.Proofs.YtfeloencepgdlaaGreatDoorW.PrintMore
attribute [local go_sem] max2_int min2_int max_two min_two max_three min_three max_four min_four   -- for this text's walks alone
set_option linter.unusedVariables false
set_option linter.unusedSimpArgs false

/-! ### impl_segText: function 23 -/
mutual
def impl_segText.l0 : Nat → List ByteArray → List ByteArray → List (List (S59)) → Int → Int → List (List (S59)) → List (S66) → List Bool → Option (ByteArray)
 | 0, _, _, _, _, _, _, _, _ => none
 | k + 1, x1, x5, x13, x14, x15, x363000, x363001, x363002 => if x15 < x14 then (if 0 ≤ x15 then (if x15 < (x13.length : Int) then (if x15 > 0 then (if 0 ≤ (wrap64 (x15 - 1)) then (if (wrap64 (x15 - 1)) < (x363001.length : Int) then ((impl_ValText.f k ((rd_T66 x363001 (wrap64 (x15 - 1))).f0.f0) ((rd_T66 x363001 (wrap64 (x15 - 1))).f0.f1) ((rd_T66 x363001 (wrap64 (x15 - 1))).f1)).bind fun t369 => (if x5.length < 8796093022208 then ((some (x5 ++ [t369] : List ByteArray)).bind fun y370 => (if (wrap64 (x15 - 1)) < (x363002.length : Int) then (if rdOf false x363002 (wrap64 (x15 - 1)) = true then (if y370.length < 8796093022208 then (impl_segText.j1 k x1 (y370 ++ [(⟨#[63]⟩ : ByteArray)]) (rd_L8 x13 x15) x13 x14 x15 x363000 x363001 x363002) else (none)) else (impl_segText.j1 k x1 y370 (rd_L8 x13 x15) x13 x14 x15 x363000 x363001 x363002)) else (none))) else (none))) else (none)) else (none)) else (impl_segText.j1 k x1 x5 (rd_L8 x13 x15) x13 x14 x15 x363000 x363001 x363002)) else (none)) else (none)) else ((strings_Join.f x5 (⟨#[32]⟩ : ByteArray)).bind fun t366 => (some t366))
def impl_segText.j1 : Nat → List ByteArray → List ByteArray → List (S59) → List (List (S59)) → Int → Int → List (List (S59)) → List (S66) → List Bool → Option (ByteArray)
 | 0, _, _, _, _, _, _, _, _, _ => none
 | k + 1, x1, x5, x7, x13, x14, x15, x363000, x363001, x363002 => impl_segText.l1 k x1 x5 (([] : List ByteArray)) x13 x14 x15 x7 (x7.length : Int) 0 x363000 x363001 x363002
def impl_segText.l1 : Nat → List ByteArray → List ByteArray → List ByteArray → List (List (S59)) → Int → Int → List (S59) → Int → Int → List (List (S59)) → List (S66) → List Bool → Option (ByteArray)
 | 0, _, _, _, _, _, _, _, _, _, _, _, _ => none
 | k + 1, x1, x5, x8, x13, x14, x15, x42, x43, x44, x363000, x363001, x363002 => if x44 < x43 then (if 0 ≤ x44 then (if x44 < (x42.length : Int) then ((impl_symText.f ((rd_T59 x42 x44).f0) ((rd_T59 x42 x44).f1) x1).bind fun t382 => (if x8.length < 8796093022208 then (impl_segText.l1 k x1 x5 (x8 ++ [t382]) x13 x14 x15 x42 x43 (wrap64 (x44 + 1)) x363000 x363001 x363002) else (none))) else (none)) else (none)) else ((strings_Join.f x8 (⟨#[44, 32]⟩ : ByteArray)).bind fun t386 => (if 1 + t386.size ≤ 9223372036854775807 then (if 1 + t386.size + 1 ≤ 9223372036854775807 then (if x5.length < 8796093022208 then (impl_segText.l0 k x1 (x5 ++ [((⟨#[123]⟩ : ByteArray) ++ t386) ++ (⟨#[125]⟩ : ByteArray)]) x13 x14 (wrap64 (x15 + 1)) x363000 x363001 x363002) else (none)) else (none)) else (none)))
end
def impl_segText.f (k : Nat) (l0_0 : List (List (S59))) (l0_1 : List (S66)) (l0_2 : List Bool) (l1 : List ByteArray) : Option (ByteArray) := impl_segText.l0 k l1 (([] : List ByteArray)) l0_0 (l0_0.length : Int) 0 l0_0 l0_1 l0_2
theorem impl_segText.mono_l : ∀ k, (∀ y0 y1 y2 y3 y4 y5 y6 y7, LeO (impl_segText.l0 k y0 y1 y2 y3 y4 y5 y6 y7) (impl_segText.l0 (k + 1) y0 y1 y2 y3 y4 y5 y6 y7)) ∧ (∀ y0 y1 y2 y3 y4 y5 y6 y7 y8, LeO (impl_segText.j1 k y0 y1 y2 y3 y4 y5 y6 y7 y8) (impl_segText.j1 (k + 1) y0 y1 y2 y3 y4 y5 y6 y7 y8)) ∧ (∀ y0 y1 y2 y3 y4 y5 y6 y7 y8 y9 y10 y11, LeO (impl_segText.l1 k y0 y1 y2 y3 y4 y5 y6 y7 y8 y9 y10 y11) (impl_segText.l1 (k + 1) y0 y1 y2 y3 y4 y5 y6 y7 y8 y9 y10 y11))
 | 0 => ⟨fun _ _ _ _ _ _ _ _ r h => by simp [impl_segText.l0] at h, fun _ _ _ _ _ _ _ _ _ r h => by simp [impl_segText.j1] at h, fun _ _ _ _ _ _ _ _ _ _ _ _ r h => by simp [impl_segText.l1] at h⟩
 | k + 1 => by
  obtain ⟨ih0, ih1, ih2⟩ := impl_segText.mono_l k; refine ⟨?_, ?_, ?_⟩
  ·
   intro y0 y1 y2 y3 y4 y5 y6 y7; unfold impl_segText.l0
   repeat' first
   | (with_reducible exact ih0 _ _ _ _ _ _ _ _)
   | (with_reducible exact ih1 _ _ _ _ _ _ _ _ _)
   | (with_reducible exact ih2 _ _ _ _ _ _ _ _ _ _ _ _)
   | (with_reducible exact impl_ValText.mono _ _ _ _)
   | (with_reducible exact LeO.refl _)
   | (with_reducible exact LeO.none _)
   | (with_reducible refine LeO.ite ?_ ?_)
   | (with_reducible refine LeO.bind ?_ (fun _ => ?_))
   | exact ih0 _ _ _ _ _ _ _ _
   | exact ih1 _ _ _ _ _ _ _ _ _
   | exact ih2 _ _ _ _ _ _ _ _ _ _ _ _
   | exact impl_ValText.mono _ _ _ _
   | exact LeO.none _
   | refine LeO.ite ?_ ?_
   | refine LeO.bind ?_ (fun _ => ?_)
  ·
   intro y0 y1 y2 y3 y4 y5 y6 y7 y8; unfold impl_segText.j1
   repeat' first
   | (with_reducible exact ih0 _ _ _ _ _ _ _ _)
   | (with_reducible exact ih1 _ _ _ _ _ _ _ _ _)
   | (with_reducible exact ih2 _ _ _ _ _ _ _ _ _ _ _ _)
   | (with_reducible exact impl_ValText.mono _ _ _ _)
   | (with_reducible exact LeO.refl _)
   | (with_reducible exact LeO.none _)
   | (with_reducible refine LeO.ite ?_ ?_)
   | (with_reducible refine LeO.bind ?_ (fun _ => ?_))
   | exact ih0 _ _ _ _ _ _ _ _
   | exact ih1 _ _ _ _ _ _ _ _ _
   | exact ih2 _ _ _ _ _ _ _ _ _ _ _ _
   | exact impl_ValText.mono _ _ _ _
   | exact LeO.none _
   | refine LeO.ite ?_ ?_
   | refine LeO.bind ?_ (fun _ => ?_)
  ·
   intro y0 y1 y2 y3 y4 y5 y6 y7 y8 y9 y10 y11; unfold impl_segText.l1
   repeat' first
   | (with_reducible exact ih0 _ _ _ _ _ _ _ _)
   | (with_reducible exact ih1 _ _ _ _ _ _ _ _ _)
   | (with_reducible exact ih2 _ _ _ _ _ _ _ _ _ _ _ _)
   | (with_reducible exact impl_ValText.mono _ _ _ _)
   | (with_reducible exact LeO.refl _)
   | (with_reducible exact LeO.none _)
   | (with_reducible refine LeO.ite ?_ ?_)
   | (with_reducible refine LeO.bind ?_ (fun _ => ?_))
   | exact ih0 _ _ _ _ _ _ _ _
   | exact ih1 _ _ _ _ _ _ _ _ _
   | exact ih2 _ _ _ _ _ _ _ _ _ _ _ _
   | exact impl_ValText.mono _ _ _ _
   | exact LeO.none _
   | refine LeO.ite ?_ ?_
   | refine LeO.bind ?_ (fun _ => ?_)
theorem impl_segText.mono : ∀ a0 a1 a2 a3 k, LeO (impl_segText.f k a0 a1 a2 a3) (impl_segText.f (k + 1) a0 a1 a2 a3) := by
 intro a0 a1 a2 a3 k; obtain ⟨ih0, ih1, ih2⟩ := impl_segText.mono_l k; unfold impl_segText.f
 repeat' first
   | (with_reducible exact ih0 _ _ _ _ _ _ _ _)
   | (with_reducible exact ih1 _ _ _ _ _ _ _ _ _)
   | (with_reducible exact ih2 _ _ _ _ _ _ _ _ _ _ _ _)
   | (with_reducible exact impl_ValText.mono _ _ _ _)
   | (with_reducible exact LeO.refl _)
   | (with_reducible exact LeO.none _)
   | (with_reducible refine LeO.ite ?_ ?_)
   | (with_reducible refine LeO.bind ?_ (fun _ => ?_))
   | exact ih0 _ _ _ _ _ _ _ _
   | exact ih1 _ _ _ _ _ _ _ _ _
   | exact ih2 _ _ _ _ _ _ _ _ _ _ _ _
   | exact impl_ValText.mono _ _ _ _
   | exact LeO.none _
   | refine LeO.ite ?_ ?_
   | refine LeO.bind ?_ (fun _ => ?_)
set_option maxHeartbeats 8000000 in
set_option maxRecDepth 100000 in
theorem impl_segText.calls (k : Nat) (A0_0 : Option Addr) (c0_0 : Nat) (l0_0 : List (List (S59))) (A0_1 : Option Addr) (c0_1 : Nat) (l0_1 : List (S66)) (A0_2 : Option Addr) (c0_2 : Nat) (l0_2 : List Bool) (A1 : Option Addr) (c1 : Nat) (l1 : List ByteArray) (r : ByteArray) (w : World) (hG0 : GL0 w) (hG4 : GL4 w) (hr0_0 : Kd.C (Kd.slice 59 k59) w A0_0 l0_0.length l0_0) (hc0_0 : l0_0.length ≤ c0_0) (hr0_1 : Kd.C k66 w A0_1 l0_1.length l0_1) (hc0_1 : l0_1.length ≤ c0_1) (hr0_2 : Kd.C Kd.bool w A0_2 l0_2.length l0_2) (hc0_2 : l0_2.length ≤ c0_2) (hr1 : Kd.C Kd.string w A1 l1.length l1) (hc1 : l1.length ≤ c1) (h : impl_segText.f k l0_0 l0_1 l0_2 l1 = some r) :
  Calls Tryz.prog 23 #[.agg #[.slice A0_0 l0_0.length c0_0, .slice A0_1 l0_1.length c0_1, .slice A0_2 l0_2.length c0_2], .slice A1 l1.length c1] w fun e w' => e = .returned (.string r) ∧ Below w.heap.size w w' := by
 have hu34 := Tryz.underlying34; have hu66 := Tryz.underlying66; have hu59 := Tryz.underlying59; have HR0_0 := Aside0.mk hr0_0; have HC0_0 := Aside0.mk hc0_0; clear hr0_0 hc0_0; have HR0_1 := Aside0.mk hr0_1; have HC0_1 := Aside0.mk hc0_1; clear hr0_1 hc0_1; have HR0_2 := Aside0.mk hr0_2; have HC0_2 := Aside0.mk hc0_2; clear hr0_2 hc0_2; have HR1 := Aside0.mk hr1; have HC1 := Aside0.mk hc1; clear hr1 hc1; have HB := Aside0.mk (Below.refl w.heap.size w); have HG0 := Aside0.mk hG0; clear hG0; have HG4 := Aside0.mk hG4; clear hG4; have H : (impl_segText.l0 k l1 (([] : List ByteArray)) l0_0 (l0_0.length : Int) 0 l0_0 l0_1 l0_2) = some r := h; clear h; obtain ⟨y363, hy363⟩ : ∃ y_ : List ByteArray, y_ = (([] : List ByteArray)) := ⟨_, rfl⟩; replace H : (impl_segText.l0 k l1 y363 l0_0 (l0_0.length : Int) 0 l0_0 l0_1 l0_2) = some r := by first | (rw [hy363]; with_reducible exact H) | (have H2_ := (Option.bind_some _ _).symm.trans H; rw [hy363]; with_reducible exact H2_) | (have H2_ := (Option.bind_some _ _).symm.trans H; with_reducible exact H2_) | with_reducible exact H | (rw [hy363]; exact H) | exact H
 have Ny363 := Aside0.mk hy363; clear hy363; have H' := Aside0.mk H; clear H
 go_enter Tryz.func23, Tryz.ntmps23
 go_wp2_with (first | ((with_reducible refine gate_dst (N := 2) rfl ?_); refine box_y 2 #[.slice A0_0 l0_0.length c0_0, .slice A0_1 l0_1.length c0_1, .slice A0_2 l0_2.length c0_2] 34 (h := ?_); intro gb362 hg w3 hbox hb; have n0_ := Aside0.mk (below_step (sq_below HB.out) hb); have n1_ := Aside0.mk (hbox); have n2_ := ge_ hg (below_size (sq_below HB.out)); have n3_ := ge_ hg (below_size (sq_below HB.out)); clear HB; have HB := n0_; have BK362 := n1_; have GW362 := n2_; have GE362 := n3_; clear n0_ n1_ n2_ n3_; clear hb hbox hg) | ((with_reducible refine gate_dst (N := 11) rfl ?_); refine Kd.R_lit Kd.string _ 9 ?hg (N := 11) ?hd (xs := ([] : List ByteArray)) (inner := []) (ok := fun _ => True) (okp := fun _ => True) ?hr ?hp (fun _ hk => hk) trivial (Below.refl _ _) (Nat.le_refl _) (by simp) ?_; (case hd => rfl); (case hg => rfl); (case hr => first | (go_simp; done) | (go_simp; rfl)); (case hp => exact (Reps.none _ _)); intro v364 w4 ho5 hb hg_ hnew_; clear hg_ hnew_; (first | rw [← Ny363.out] at ho5 | (simp only [Int.reduceToNat] at ho5; rw [← Ny363.out] at ho5)); have n0_ := Aside0.mk (Kd.R_lower ho5 (below_size (sq_below1 HB.out GE362.out))); have n1_ := Aside0.mk (blk_below (sq_blk BK362.out) hb); have n2_ := Aside0.mk (below_step (sq_below1 HB.out GE362.out) hb); clear BK362; clear HB; have HO365 := n0_; have BK362 := n1_; have HB := n2_; clear n0_ n1_ n2_; clear hb ho5; have hcz6_0 := cl_ (v := .slice A0_0 l0_0.length c0_0) BK362 0; have hcz6_1 := cl_ (v := .slice A0_1 l0_1.length c0_1) BK362 1; have hcz6_2 := cl_ (v := .slice A0_2 l0_2.length c0_2) BK362 2; have hfz6_0 := blk_frozen BK362.out 0; have hfz6_1 := blk_frozen BK362.out 1; have hfz6_2 := blk_frozen BK362.out 2))
 go_loopg [5, 15] k (fun kq v5 v15 w' => ∃ (x5_1 : List ByteArray) (x15_1 : Int), v15 = .int .i64 x15_1 ∧ Aside0 (impl_segText.l0 kq l1 x5_1 l0_0 (l0_0.length : Int) x15_1 l0_0 l0_1 l0_2 = some r) ∧ Aside0 (kq ≤ k) ∧ Aside0 (Kd.R Kd.string 9 w' w.heap.size (fun _ => True) v5 x5_1) ∧ Aside0 (w'.heap[gb362]? = some (.cells #[(.slice A0_0 l0_0.length c0_0), (.slice A0_1 l0_1.length c0_1), (.slice A0_2 l0_2.length c0_2)] 34 (0, 0))) ∧ Aside0 (Below w.heap.size w w'))
 case atStart => exact ⟨(y363), (0), (by first | rfl | (simp; done) | (simp [*]; done)), H', ⟨Nat.le_refl _⟩, ⟨by (with_reducible repeat (first | apply Kd.R_alloc | apply Kd.R_drewN | apply Kd.R_drew)); exact HO365.out⟩, bk_ BK362, ⟨sq_below1 HB.out GE362.out⟩⟩
 case round =>
  clear H'
  try clear c1
  try clear c2
  try clear p2
  try clear hcz6_0
  try clear hcz6_1
  try clear hcz6_2
  try clear hfz6_0
  try clear hfz6_1
  try clear hfz6_2
  obtain ⟨x5_1, x15_1, rfl, HA, HK1, HO_5, BK362, HB⟩ := hrel; cases gk with
  | zero => exact absurd HA.out (by simp [impl_segText.l0])
  | succ k1 =>
   have H := HA.out; clear HA; simp only [impl_segText.l0] at H
   by_cases c7 : x15_1 < (l0_0.length : Int)
   ·
    rw [if_pos c7] at H; have c7b0 : decide (x15_1 < (l0_0.length : Int)) = true := decide_eq_true c7; clear c7
    by_cases c8 : 0 ≤ x15_1
    ·
     rw [if_pos c8] at H; have c8b0 : decide (0 ≤ x15_1) = true := decide_eq_true c8; clear c8
     by_cases c9 : x15_1 < (l0_0.length : Int)
     ·
      rw [if_pos c9] at H; have c9b0 : decide (x15_1 < (l0_0.length : Int)) = true := decide_eq_true c9; clear c9; have HC10 := Aside0.mk H; clear H; have p367 : 0 ≤ (x15_1 : Int) := sq_dec; have q367 : x15_1 < (l0_0.length : Int) := sq_dec; obtain ⟨ad367, A367_0, c367_0, e367, hx367_0, hl367_0, hi367_0⟩ := at_L8 HR0_0.out x15_1 p367 q367; cases e367; replace hx367_0 := (HB.out.cell (World.block_lt_of_cell? w _ hx367_0)).trans hx367_0; have HR367_0 := Aside0.mk hi367_0; have HC367_0 := Aside0.mk hl367_0; clear hi367_0 hl367_0; replace p367 := eq_true p367; replace q367 := eq_true q367
      go_upto_if 21 with (fail)
      go_cut [5] (fun v5 wc => ∃ (kq : Nat) (x5_9 : List ByteArray), Aside0 (impl_segText.j1 kq l1 x5_9 (rd_L8 l0_0 x15_1) l0_0 (l0_0.length : Int) x15_1 l0_0 l0_1 l0_2 = some r) ∧ Aside0 (kq ≤ k1) ∧ Aside0 (Kd.R Kd.string 9 wc w.heap.size (fun _ => True) v5 x5_9) ∧ Aside0 (wc.heap[gb362]? = some (.cells #[(.slice (some ad367) l0_0.length c0_0), (.slice A0_1 l0_1.length c0_1), (.slice A0_2 l0_2.length c0_2)] 34 (0, 0))) ∧ Aside0 (Below w.heap.size w wc))
      case first =>
       have H := HC10.out; clear HC10
       by_cases c11 : x15_1 > 0
       ·
        rw [if_pos c11] at H; have c11b0 : decide (0 < x15_1) = true := decide_eq_true c11; clear c11
        (first | rw [c11b0] | (simp only [i64_w, i32_w]; rw [c11b0]) | skip)
        obtain ⟨ji12, hji12⟩ : ∃ j_ : Int, (wrap64 (x15_1 - 1)) = j_ := ⟨_, rfl⟩; replace H : (if 0 ≤ (ji12) then (if (ji12) < (l0_1.length : Int) then ((impl_ValText.f k1 ((rd_T66 l0_1 (ji12)).f0.f0) ((rd_T66 l0_1 (ji12)).f0.f1) ((rd_T66 l0_1 (ji12)).f1)).bind fun t369 => (if x5_1.length < 8796093022208 then ((some (x5_1 ++ [t369] : List ByteArray)).bind fun y370 => (if (ji12) < (l0_2.length : Int) then (if rdOf false l0_2 (ji12) = true then (if y370.length < 8796093022208 then (impl_segText.j1 k1 l1 (y370 ++ [(⟨#[63]⟩ : ByteArray)]) (rd_L8 l0_0 x15_1) l0_0 (l0_0.length : Int) x15_1 l0_0 l0_1 l0_2) else (none)) else (impl_segText.j1 k1 l1 y370 (rd_L8 l0_0 x15_1) l0_0 (l0_0.length : Int) x15_1 l0_0 l0_1 l0_2)) else (none))) else (none))) else (none)) else (none)) = some r := by first | (rw [hji12] at H; exact H) | (simp only [hji12] at H ⊢; exact H)
        have hji12w : (IntKind.i64.wrap (x15_1 - 1)) = ji12 := (i64_w _).trans hji12
        by_cases c13 : 0 ≤ (ji12)
        ·
         rw [if_pos c13] at H; have c13b0 : decide (0 ≤ (ji12)) = true := decide_eq_true c13; clear c13
         by_cases c14 : (ji12) < (l0_1.length : Int)
         ·
          rw [if_pos c14] at H; have c14b0 : decide ((ji12) < (l0_1.length : Int)) = true := decide_eq_true c14; clear c14; replace H := Option.bind_eq_some_iff.mp H; obtain ⟨t369, A150, H⟩ := H; (try dsimp only at H); have A15 := Aside0.mk A150; clear A150
          by_cases c16 : x5_1.length < 8796093022208
          ·
           rw [if_pos c16] at H; have LMc16 := Aside0.mk c16; clear c16; obtain ⟨y370, hy370⟩ : ∃ y_ : List ByteArray, y_ = (x5_1 ++ [t369]) := ⟨_, rfl⟩; replace H : (if (ji12) < (l0_2.length : Int) then (if rdOf false l0_2 (ji12) = true then (if y370.length < 8796093022208 then (impl_segText.j1 k1 l1 (y370 ++ [(⟨#[63]⟩ : ByteArray)]) (rd_L8 l0_0 x15_1) l0_0 (l0_0.length : Int) x15_1 l0_0 l0_1 l0_2) else (none)) else (impl_segText.j1 k1 l1 y370 (rd_L8 l0_0 x15_1) l0_0 (l0_0.length : Int) x15_1 l0_0 l0_1 l0_2)) else (none)) = some r := by first | (rw [hy370]; with_reducible exact H) | (have H2_ := (Option.bind_some _ _).symm.trans H; rw [hy370]; with_reducible exact H2_) | (have H2_ := (Option.bind_some _ _).symm.trans H; with_reducible exact H2_) | with_reducible exact H | (rw [hy370]; exact H) | exact H
           have Ny370 := Aside0.mk hy370; clear hy370
           by_cases c17 : (ji12) < (l0_2.length : Int)
           ·
            rw [if_pos c17] at H; have c17b0 : decide ((ji12) < (l0_2.length : Int)) = true := decide_eq_true c17; clear c17; obtain ⟨bq18, hbq18⟩ : ∃ b_ : Bool, b_ = (rdOf false l0_2 (ji12)) := ⟨_, rfl⟩; replace H : (if bq18 = true then (if y370.length < 8796093022208 then (impl_segText.j1 k1 l1 (y370 ++ [(⟨#[63]⟩ : ByteArray)]) (rd_L8 l0_0 x15_1) l0_0 (l0_0.length : Int) x15_1 l0_0 l0_1 l0_2) else (none)) else (impl_segText.j1 k1 l1 y370 (rd_L8 l0_0 x15_1) l0_0 (l0_0.length : Int) x15_1 l0_0 l0_1 l0_2)) = some r := by rw [← hbq18] at H; exact H
            have Nbq18 := Aside0.mk hbq18; clear hbq18
            by_cases c19 : bq18 = true
            ·
             subst c19; have H1 := ifp_ H
             clear H; have H := H1; clear H1
             by_cases c20 : y370.length < 8796093022208
             ·
              rw [if_pos c20] at H; have LMc20 := Aside0.mk c20; clear c20; obtain ⟨y374, hy374⟩ : ∃ y_ : List ByteArray, y_ = (y370 ++ [(⟨#[63]⟩ : ByteArray)]) := ⟨_, rfl⟩; replace H : (impl_segText.j1 k1 l1 y374 (rd_L8 l0_0 x15_1) l0_0 (l0_0.length : Int) x15_1 l0_0 l0_1 l0_2) = some r := by first | (rw [hy374]; with_reducible exact H) | (have H2_ := (Option.bind_some _ _).symm.trans H; rw [hy374]; with_reducible exact H2_) | (have H2_ := (Option.bind_some _ _).symm.trans H; with_reducible exact H2_) | with_reducible exact H | (rw [hy374]; exact H) | exact H
              have Ny374 := Aside0.mk hy374; clear hy374; have H' := Aside0.mk H; clear H; have hcz21_0 := cl_ (v := .slice (some ad367) l0_0.length c0_0) BK362 0; have hcz21_1 := cl_ (v := .slice A0_1 l0_1.length c0_1) BK362 1; have hcz21_2 := cl_ (v := .slice A0_2 l0_2.length c0_2) BK362 2; have hfz21_0 := blk_frozen BK362.out 0; have hfz21_1 := blk_frozen BK362.out 1; have hfz21_2 := blk_frozen BK362.out 2; have p368 : 0 ≤ ((ji12) : Int) := sq_dec; have q368 : (ji12) < (l0_1.length : Int) := sq_dec; obtain ⟨ad368, e368, hx368_0, hx368_1, hx368_2⟩ := at_T66 HR0_1.out (ji12) p368 q368
              (try rw [← Nbq18.out] at hx368_2)
              cases e368; replace hx368_0 := (HB.out.cell (World.block_lt_of_cell? w _ hx368_0)).trans hx368_0; replace hx368_1 := (HB.out.cell (World.block_lt_of_cell? w _ hx368_1)).trans hx368_1; replace hx368_2 := (HB.out.cell (World.block_lt_of_cell? w _ hx368_2)).trans hx368_2; replace p368 := eq_true p368; replace q368 := eq_true q368
              go_wp2_with (first | ((with_reducible refine gate_callee (f := 52) rfl ?_); refine goesL_ (some 29) rfl rfl Tryz.func52 (by kernel_rfl) rfl #[.agg #[.int .i64 ((rd_T66 l0_1 (ji12)).f0.f0), .int .i64 ((rd_T66 l0_1 (ji12)).f0.f1), .bool ((rd_T66 l0_1 (ji12)).f1)]] rfl (by (try simp only [List.map_toArray, List.map_cons, List.map_nil]); first | done | (simp only [hji12]; rfl) | rfl | (simp only [List.length_drop, List.length_take]; rfl)) ?_; (with_reducible refine (impl_ValText.calls k1 ((rd_T66 l0_1 (ji12)).f0.f0) ((rd_T66 l0_1 (ji12)).f0.f1) ((rd_T66 l0_1 (ji12)).f1) t369 _ ?side1 ?side2 A15.out).mono ?_); (case side1 => exact GL0.below HG0.out (sq_below1 HB.out GE362.out)); (case side2 => exact GL4.below HG4.out (sq_below1 HB.out GE362.out)); rintro e w22 ⟨rfl, hb⟩; refine ⟨_, rfl, ?_⟩; replace HO_5 := Aside0.mk (Kd.R_below (sq_row HO_5.out) hb); replace BK362 := bb_ BK362 hb; replace HB := hb1_ HB hb GE362; (try clear hb)) | ((with_reducible refine gate_builtin (b := .append) (xs := #[.tmp 22, .tmp 30]) rfl ?_); at_builtin; refine Kd.R_append Kd.string (w0 := w) w.heap.size rfl (.tmp 22) (.tmp 30) 27 9 (.string ⟨#[]⟩) 16 rfl Tryz.underlying27 info9 rfl (by decide) (by omega) u5 x5_1 t369 [.string t369] (fun _ => True) (fun _ => False) rfl rfl ?aP (fun _ hk => hk.elim) ?aF ?aO ?aB ?aS ?aL ?_; (case aP => exact rfl); (case aB => exact (sq_below1 HB.out GE362.out)); (case aF => exact (fun _ _ => trivial)); (case aO => exact (sq_row HO_5.out)); (case aS => exact (below_size (sq_below1 HB.out GE362.out))); (case aL => have := LMc16.out; omega); intro v371 w23 ho hb hg hat; rw [← Ny370.out] at ho; have n0_ := Aside0.mk (blk_grown (g := gb362) (o := .cells #[.slice (some ad367) l0_0.length c0_0, .slice (some ad368) l0_1.length c0_1, .slice A0_2 l0_2.length c0_2] 34 (0, 0)) (sq_blk BK362.out) hg (Kd.R_ne HO_5.out BK362.out (by decide))); have n1_ := Aside0.mk (hb); have n2_ := Aside0.mk (ho); clear BK362; clear HB; clear HO_5; have BK362 := n0_; have HB := n1_; have HO372 := n2_; clear n0_ n1_ n2_; clear ho hb hg hat; have hcz24_0 := cl_ (v := .slice (some ad367) l0_0.length c0_0) BK362 0; have hcz24_1 := cl_ (v := .slice (some ad368) l0_1.length c0_1) BK362 1; have hcz24_2 := cl_ (v := .slice A0_2 l0_2.length c0_2) BK362 2; have hfz24_0 := blk_frozen BK362.out 0; have hfz24_1 := blk_frozen BK362.out 1; have hfz24_2 := blk_frozen BK362.out 2; have p373 : 0 ≤ ((ji12) : Int) := sq_dec; have q373 : (ji12) < (l0_2.length : Int) := sq_dec; obtain ⟨ad373, e373, hx373_0⟩ := Kd.at_bool HR0_2.out (ji12) p373 q373; (try rw [← Nbq18.out] at hx373_0); cases e373; replace hx373_0 := (HB.out.cell (World.block_lt_of_cell? w _ hx373_0)).trans hx373_0; replace p373 := eq_true p373; replace q373 := eq_true q373) | ((with_reducible refine gate_builtin (b := .append) (xs := #[.tmp 38, .tmp 39]) rfl ?_); at_builtin; refine Kd.R_append Kd.string (w0 := w) w.heap.size rfl (.tmp 38) (.tmp 39) 27 9 (.string ⟨#[]⟩) 16 rfl Tryz.underlying27 info9 rfl (by decide) (by omega) v371 y370 (⟨#[63]⟩ : ByteArray) [.string (⟨#[63]⟩ : ByteArray)] (fun _ => True) (fun _ => False) rfl rfl ?aP (fun _ hk => hk.elim) ?aF ?aO ?aB ?aS ?aL ?_; (case aP => exact rfl); (case aB => exact (sq_below1 HB.out GE362.out)); (case aF => exact (fun _ _ => trivial)); (case aO => exact (sq_row HO372.out)); (case aS => exact (below_size (sq_below1 HB.out GE362.out))); (case aL => have := LMc20.out; omega); intro v375 w25 ho hb hg hat; rw [← Ny374.out] at ho; have n0_ := Aside0.mk (blk_grown (g := gb362) (o := .cells #[.slice (some ad367) l0_0.length c0_0, .slice (some ad368) l0_1.length c0_1, .slice (some ad373) l0_2.length c0_2] 34 (0, 0)) (sq_blk BK362.out) hg (Kd.R_ne HO372.out BK362.out (by decide))); have n1_ := Aside0.mk (hb); have n2_ := Aside0.mk (ho); clear BK362; clear HB; clear HO372; have BK362 := n0_; have HB := n1_; have HO376 := n2_; clear n0_ n1_ n2_; clear ho hb hg hat))
              go_meet
              case rel => exact ⟨_, (y374), (by first | exact H' | (rw [hji12]; exact H')), ⟨by have := HK1.out; first | omega | exact Nat.le_refl _⟩, ⟨by (with_reducible repeat (first | apply Kd.R_alloc | apply Kd.R_drewN | apply Kd.R_drew)); exact HO376.out⟩, bk_ BK362, ⟨sq_below1 HB.out GE362.out⟩⟩
             ·
              rw [if_neg c20] at H; exact absurd H (by simp)
            ·
             replace c19 := Bool.eq_false_iff.mpr c19; subst c19; have H1 := ifn_ H
             clear H; have H := H1; clear H1; have H' := Aside0.mk H; clear H; have hcz26_0 := cl_ (v := .slice (some ad367) l0_0.length c0_0) BK362 0; have hcz26_1 := cl_ (v := .slice A0_1 l0_1.length c0_1) BK362 1; have hcz26_2 := cl_ (v := .slice A0_2 l0_2.length c0_2) BK362 2; have hfz26_0 := blk_frozen BK362.out 0; have hfz26_1 := blk_frozen BK362.out 1; have hfz26_2 := blk_frozen BK362.out 2; have p368 : 0 ≤ ((ji12) : Int) := sq_dec; have q368 : (ji12) < (l0_1.length : Int) := sq_dec; obtain ⟨ad368, e368, hx368_0, hx368_1, hx368_2⟩ := at_T66 HR0_1.out (ji12) p368 q368
             (try rw [← Nbq18.out] at hx368_2)
             cases e368; replace hx368_0 := (HB.out.cell (World.block_lt_of_cell? w _ hx368_0)).trans hx368_0; replace hx368_1 := (HB.out.cell (World.block_lt_of_cell? w _ hx368_1)).trans hx368_1; replace hx368_2 := (HB.out.cell (World.block_lt_of_cell? w _ hx368_2)).trans hx368_2; replace p368 := eq_true p368; replace q368 := eq_true q368
             go_wp2_with (first | ((with_reducible refine gate_callee (f := 52) rfl ?_); refine goesL_ (some 29) rfl rfl Tryz.func52 (by kernel_rfl) rfl #[.agg #[.int .i64 ((rd_T66 l0_1 (ji12)).f0.f0), .int .i64 ((rd_T66 l0_1 (ji12)).f0.f1), .bool ((rd_T66 l0_1 (ji12)).f1)]] rfl (by (try simp only [List.map_toArray, List.map_cons, List.map_nil]); first | done | (simp only [hji12]; rfl) | rfl | (simp only [List.length_drop, List.length_take]; rfl)) ?_; (with_reducible refine (impl_ValText.calls k1 ((rd_T66 l0_1 (ji12)).f0.f0) ((rd_T66 l0_1 (ji12)).f0.f1) ((rd_T66 l0_1 (ji12)).f1) t369 _ ?side1 ?side2 A15.out).mono ?_); (case side1 => exact GL0.below HG0.out (sq_below1 HB.out GE362.out)); (case side2 => exact GL4.below HG4.out (sq_below1 HB.out GE362.out)); rintro e w27 ⟨rfl, hb⟩; refine ⟨_, rfl, ?_⟩; replace HO_5 := Aside0.mk (Kd.R_below (sq_row HO_5.out) hb); replace BK362 := bb_ BK362 hb; replace HB := hb1_ HB hb GE362; (try clear hb)) | ((with_reducible refine gate_builtin (b := .append) (xs := #[.tmp 22, .tmp 30]) rfl ?_); at_builtin; refine Kd.R_append Kd.string (w0 := w) w.heap.size rfl (.tmp 22) (.tmp 30) 27 9 (.string ⟨#[]⟩) 16 rfl Tryz.underlying27 info9 rfl (by decide) (by omega) u5 x5_1 t369 [.string t369] (fun _ => True) (fun _ => False) rfl rfl ?aP (fun _ hk => hk.elim) ?aF ?aO ?aB ?aS ?aL ?_; (case aP => exact rfl); (case aB => exact (sq_below1 HB.out GE362.out)); (case aF => exact (fun _ _ => trivial)); (case aO => exact (sq_row HO_5.out)); (case aS => exact (below_size (sq_below1 HB.out GE362.out))); (case aL => have := LMc16.out; omega); intro v371 w28 ho hb hg hat; rw [← Ny370.out] at ho; have n0_ := Aside0.mk (blk_grown (g := gb362) (o := .cells #[.slice (some ad367) l0_0.length c0_0, .slice (some ad368) l0_1.length c0_1, .slice A0_2 l0_2.length c0_2] 34 (0, 0)) (sq_blk BK362.out) hg (Kd.R_ne HO_5.out BK362.out (by decide))); have n1_ := Aside0.mk (hb); have n2_ := Aside0.mk (ho); clear BK362; clear HB; clear HO_5; have BK362 := n0_; have HB := n1_; have HO372 := n2_; clear n0_ n1_ n2_; clear ho hb hg hat; have hcz29_0 := cl_ (v := .slice (some ad367) l0_0.length c0_0) BK362 0; have hcz29_1 := cl_ (v := .slice (some ad368) l0_1.length c0_1) BK362 1; have hcz29_2 := cl_ (v := .slice A0_2 l0_2.length c0_2) BK362 2; have hfz29_0 := blk_frozen BK362.out 0; have hfz29_1 := blk_frozen BK362.out 1; have hfz29_2 := blk_frozen BK362.out 2; have p373 : 0 ≤ ((ji12) : Int) := sq_dec; have q373 : (ji12) < (l0_2.length : Int) := sq_dec; obtain ⟨ad373, e373, hx373_0⟩ := Kd.at_bool HR0_2.out (ji12) p373 q373; (try rw [← Nbq18.out] at hx373_0); cases e373; replace hx373_0 := (HB.out.cell (World.block_lt_of_cell? w _ hx373_0)).trans hx373_0; replace p373 := eq_true p373; replace q373 := eq_true q373))
             go_meet
             case rel => exact ⟨_, (y370), (by first | exact H' | (rw [hji12]; exact H')), ⟨by have := HK1.out; first | omega | exact Nat.le_refl _⟩, ⟨by (with_reducible repeat (first | apply Kd.R_alloc | apply Kd.R_drewN | apply Kd.R_drew)); exact HO372.out⟩, bk_ BK362, ⟨sq_below1 HB.out GE362.out⟩⟩
           ·
            rw [if_neg c17] at H; exact absurd H (by simp)
          ·
           rw [if_neg c16] at H; exact absurd H (by simp)
         ·
          rw [if_neg c14] at H; exact absurd H (by simp)
        ·
         rw [if_neg c13] at H; exact absurd H (by simp)
       ·
        rw [if_neg c11] at H; have c11b0 : decide (0 < x15_1) = false := decide_eq_false c11; clear c11
        (first | rw [c11b0] | (simp only [i64_w, i32_w]; rw [c11b0]) | skip)
        have H' := Aside0.mk H; clear H
        go_wp2
        go_meet
        case rel => exact ⟨_, (x5_1), H', ⟨by have := HK1.out; first | omega | exact Nat.le_refl _⟩, ⟨by (with_reducible repeat (first | apply Kd.R_alloc | apply Kd.R_drewN | apply Kd.R_drew)); exact HO_5.out⟩, bk_ BK362, ⟨sq_below1 HB.out GE362.out⟩⟩
      case rest =>
       clear HC10
       try clear c1
       try clear q1
       try clear c2
       try clear p2
       try clear c3
       try clear p3
       try clear q3
       try clear hx3
       try clear c5
       try clear p6
       try clear c7
       try clear c7b0
       try clear c8
       try clear c8b0
       try clear c9
       try clear c9b0
       try clear c11
       try clear c11b0
       try clear c13
       try clear c13b0
       try clear c14
       try clear c14b0
       try clear c16
       try clear c17
       try clear c17b0
       try clear q18
       try clear c19
       try clear c20
       try clear c23
       try clear hcz21_0
       try clear hcz21_1
       try clear hcz21_2
       try clear hcz24_0
       try clear hcz24_1
       try clear hcz24_2
       try clear hcz26_0
       try clear hcz26_1
       try clear hcz26_2
       try clear hcz29_0
       try clear hcz29_1
       try clear hcz29_2
       try clear hcz6_0
       try clear hcz6_1
       try clear hcz6_2
       try clear hfz21_0
       try clear hfz21_1
       try clear hfz21_2
       try clear hfz24_0
       try clear hfz24_1
       try clear hfz24_2
       try clear hfz26_0
       try clear hfz26_1
       try clear hfz26_2
       try clear hfz29_0
       try clear hfz29_1
       try clear hfz29_2
       try clear hfz6_0
       try clear hfz6_1
       try clear hfz6_2
       try clear hx367_0
       try clear hx368_0
       try clear hx368_1
       try clear hx368_2
       try clear hx373_0
       try clear p2
       try clear p367
       try clear p368
       try clear p373
       try clear q367
       try clear q368
       try clear q373
       obtain ⟨kq, x5_9, HA, HJ9, HO_5, BK362, HB⟩ := hcut; cases kq with
       | zero => exact absurd HA.out (by simp [impl_segText.j1])
       | succ kj9 =>
        have H := HA.out; clear HA; simp only [impl_segText.j1] at H; obtain ⟨y377, hy377⟩ : ∃ y_ : List ByteArray, y_ = (([] : List ByteArray)) := ⟨_, rfl⟩; replace H : (impl_segText.l1 kj9 l1 x5_9 y377 l0_0 (l0_0.length : Int) x15_1 (rd_L8 l0_0 x15_1) ((rd_L8 l0_0 x15_1).length : Int) 0 l0_0 l0_1 l0_2) = some r := by first | (rw [hy377]; with_reducible exact H) | (have H2_ := (Option.bind_some _ _).symm.trans H; rw [hy377]; with_reducible exact H2_) | (have H2_ := (Option.bind_some _ _).symm.trans H; with_reducible exact H2_) | with_reducible exact H | (rw [hy377]; exact H) | exact H
        have Ny377 := Aside0.mk hy377; clear hy377; have H' := Aside0.mk H; clear H
        go_wp2_with (first | ((with_reducible refine gate_dst (N := 41) rfl ?_); refine Kd.R_lit Kd.string _ 9 ?hg (N := 41) ?hd (xs := ([] : List ByteArray)) (inner := []) (ok := fun _ => True) (okp := fun _ => True) ?hr ?hp (fun _ hk => hk) trivial (Below.refl _ _) (Nat.le_refl _) (by simp) ?_; (case hd => rfl); (case hg => rfl); (case hr => first | (go_simp; done) | (go_simp; rfl)); (case hp => exact (Reps.none _ _)); intro v378 w30 ho31 hb hg_ hnew_; clear hg_ hnew_; (first | rw [← Ny377.out] at ho31 | (simp only [Int.reduceToNat] at ho31; rw [← Ny377.out] at ho31)); have n0_ := Aside0.mk (Kd.R_elder' (sq_row HO_5.out) (Kd.R_base ho31) hb); have n1_ := Aside0.mk (Kd.R_lower (Kd.R_new' ho31 (Kd.R_lt (sq_row HO_5.out))) (below_size (sq_below1 HB.out GE362.out))); have n2_ := Aside0.mk (blk_below (sq_blk BK362.out) hb); have n3_ := Aside0.mk (below_step (sq_below1 HB.out GE362.out) hb); clear HO_5; clear BK362; clear HB; have HO_5 := n0_; have HO379 := n1_; have BK362 := n2_; have HB := n3_; clear n0_ n1_ n2_ n3_; clear hb ho31))
        go_loopg [8, 44] kj9 (fun kq v8 v44 w' => ∃ (x8_3 : List ByteArray) (x44_3 : Int), v44 = .int .i64 x44_3 ∧ Aside0 (impl_segText.l1 kq l1 x5_9 x8_3 l0_0 (l0_0.length : Int) x15_1 (rd_L8 l0_0 x15_1) ((rd_L8 l0_0 x15_1).length : Int) x44_3 l0_0 l0_1 l0_2 = some r) ∧ Aside0 (kq ≤ kj9) ∧ Aside0 (Kd.R Kd.string 9 w' w.heap.size (fun k_ => some k_ ≠ (v8 : Value).ownBlock) u5 x5_9) ∧ Aside0 (Kd.R Kd.string 9 w' w.heap.size (fun k_ => some k_ ≠ (u5 : Value).ownBlock) v8 x8_3) ∧ Aside0 (w'.heap[gb362]? = some (.cells #[(.slice (some ad367) l0_0.length c0_0), (.slice A0_1 l0_1.length c0_1), (.slice A0_2 l0_2.length c0_2)] 34 (0, 0))) ∧ Aside0 (Below w.heap.size w w'))
        case atStart => exact ⟨(y377), (0), (by first | rfl | (simp; done) | (simp [*]; done)), H', ⟨Nat.le_refl _⟩, ⟨by (with_reducible repeat (first | apply Kd.R_alloc | apply Kd.R_drewN | apply Kd.R_drew)); exact Kd.R_mono HO_5.out (fun _ hk => hk.2)⟩, ⟨by (with_reducible repeat (first | apply Kd.R_alloc | apply Kd.R_drewN | apply Kd.R_drew)); exact Kd.R_mono HO379.out (fun _ hk => hk.2)⟩, bk_ BK362, ⟨sq_below1 HB.out GE362.out⟩⟩
        case round =>
         clear H'
         try clear c1
         try clear q1
         try clear c2
         try clear p2
         try clear c3
         try clear p3
         try clear q3
         try clear hx3
         try clear c5
         try clear p6
         try clear c7
         try clear c7b0
         try clear c8
         try clear c8b0
         try clear c9
         try clear c9b0
         try clear c11
         try clear c11b0
         try clear c13
         try clear c13b0
         try clear c14
         try clear c14b0
         try clear c16
         try clear c17
         try clear c17b0
         try clear q18
         try clear c19
         try clear c20
         try clear c23
         try clear hcz21_0
         try clear hcz21_1
         try clear hcz21_2
         try clear hcz24_0
         try clear hcz24_1
         try clear hcz24_2
         try clear hcz26_0
         try clear hcz26_1
         try clear hcz26_2
         try clear hcz29_0
         try clear hcz29_1
         try clear hcz29_2
         try clear hcz6_0
         try clear hcz6_1
         try clear hcz6_2
         try clear hfz21_0
         try clear hfz21_1
         try clear hfz21_2
         try clear hfz24_0
         try clear hfz24_1
         try clear hfz24_2
         try clear hfz26_0
         try clear hfz26_1
         try clear hfz26_2
         try clear hfz29_0
         try clear hfz29_1
         try clear hfz29_2
         try clear hfz6_0
         try clear hfz6_1
         try clear hfz6_2
         try clear hx367_0
         try clear hx368_0
         try clear hx368_1
         try clear hx368_2
         try clear hx373_0
         try clear p2
         try clear p3
         try clear p367
         try clear p368
         try clear p373
         try clear p6
         try clear q1
         try clear q18
         try clear q3
         try clear q367
         try clear q368
         try clear q373
         obtain ⟨x8_3, x44_3, rfl, HA, HK3, HO_5, HO_8, BK362, HB⟩ := hrel; cases gk with
         | zero => exact absurd HA.out (by simp [impl_segText.l1])
         | succ k3 =>
          have H := HA.out; clear HA; simp only [impl_segText.l1] at H
          by_cases c32 : x44_3 < ((rd_L8 l0_0 x15_1).length : Int)
          ·
           rw [if_pos c32] at H; have c32b0 : decide (x44_3 < ((rd_L8 l0_0 x15_1).length : Int)) = true := decide_eq_true c32; clear c32
           by_cases c33 : 0 ≤ x44_3
           ·
            rw [if_pos c33] at H; have c33b0 : decide (0 ≤ x44_3) = true := decide_eq_true c33; clear c33
            by_cases c34 : x44_3 < ((rd_L8 l0_0 x15_1).length : Int)
            ·
             rw [if_pos c34] at H; have c34b0 : decide (x44_3 < ((rd_L8 l0_0 x15_1).length : Int)) = true := decide_eq_true c34; clear c34; replace H := Option.bind_eq_some_iff.mp H; obtain ⟨t382, A350, H⟩ := H; (try dsimp only at H); have A35 := Aside0.mk A350; clear A350
             by_cases c36 : x8_3.length < 8796093022208
             ·
              rw [if_pos c36] at H; have LMc36 := Aside0.mk c36; clear c36; obtain ⟨y383, hy383⟩ : ∃ y_ : List ByteArray, y_ = (x8_3 ++ [t382]) := ⟨_, rfl⟩; replace H : (impl_segText.l1 k3 l1 x5_9 y383 l0_0 (l0_0.length : Int) x15_1 (rd_L8 l0_0 x15_1) ((rd_L8 l0_0 x15_1).length : Int) (wrap64 (x44_3 + 1)) l0_0 l0_1 l0_2) = some r := by first | (rw [hy383]; with_reducible exact H) | (have H2_ := (Option.bind_some _ _).symm.trans H; rw [hy383]; with_reducible exact H2_) | (have H2_ := (Option.bind_some _ _).symm.trans H; with_reducible exact H2_) | with_reducible exact H | (rw [hy383]; exact H) | exact H
              have Ny383 := Aside0.mk hy383; clear hy383; have H' := Aside0.mk H; clear H; have p380 : 0 ≤ (x44_3 : Int) := sq_dec; have q380 : x44_3 < ((rd_L8 l0_0 x15_1).length : Int) := sq_dec; obtain ⟨ad380, e380, hx380_0, hx380_1⟩ := at_T59 HR367_0.out x44_3 p380 q380; cases e380; replace hx380_0 := (HB.out.cell (World.block_lt_of_cell? w _ hx380_0)).trans hx380_0; replace hx380_1 := (HB.out.cell (World.block_lt_of_cell? w _ hx380_1)).trans hx380_1; replace p380 := eq_true p380; replace q380 := eq_true q380
              go_wp2_with (first | ((with_reducible refine gate_dst (N := 10) rfl ?_); refine box_y 10 #[.int .i64 0, .int .i64 0] 59 (h := ?_); intro gb381 hg w37 hbox hb; have n0_ := Aside0.mk (Kd.R_below (sq_row HO_5.out) hb); have n1_ := Aside0.mk (Kd.R_below (sq_row HO_8.out) hb); have n2_ := Aside0.mk (blk_below (sq_blk BK362.out) hb); have n3_ := Aside0.mk (below_step (sq_below1 HB.out GE362.out) hb); have n4_ := Aside0.mk (hbox); have n5_ := ge_ hg (below_size (sq_below1 HB.out GE362.out)); have n6_ := ge_ hg (below_size (sq_below1 HB.out GE362.out)); have n7_ := nb_ hg BK362; have n8_ := Aside0.mk (Ne.symm n7_.out); clear HO_5; clear HO_8; clear BK362; clear HB; have HO_5 := n0_; have HO_8 := n1_; have BK362 := n2_; have HB := n3_; have BK381 := n4_; have GW381 := n5_; have GE381 := n6_; have NB362_381 := n7_; have NB381_362 := n8_; clear n0_ n1_ n2_ n3_ n4_ n5_ n6_ n7_ n8_; clear hb hbox hg; have hnb38 := NB381_362.out; have hnc38 := NB362_381.out; have hcz39_0 := cl_ (v := .int .i64 0) BK381 0; have hcz39_1 := cl_ (v := .int .i64 0) BK381 1; have hfz39_0 := blk_frozen BK381.out 0; have hfz39_1 := blk_frozen BK381.out 1) | ((with_reducible refine gate_callee (f := 53) rfl ?_); refine gl_ 51 Tryz.func53 #[.agg #[.int .i64 ((rd_T59 (rd_L8 l0_0 x15_1) x44_3).f0), .int .i64 ((rd_T59 (rd_L8 l0_0 x15_1) x44_3).f1)], .slice A1 l1.length c1] (h := ?_); (with_reducible refine (impl_symText.calls ((rd_T59 (rd_L8 l0_0 x15_1) x44_3).f0) ((rd_T59 (rd_L8 l0_0 x15_1) x44_3).f1) _ _ l1 t382 _ ?side3 ?side1 ?side2 A35.out).mono ?_); (case side1 => exact Kd.C_below HR1.out (sq_below2 HB.out GE362.out GE381.out)); (case side2 => exact HC1.out); (case side3 => exact GL4.below HG4.out (sq_below2 HB.out GE362.out GE381.out)); rintro e w40 ⟨rfl, hb⟩; refine ⟨_, rfl, ?_⟩; replace HO_5 := Aside0.mk (Kd.R_below (by (with_reducible repeat (first | apply Kd.R_alloc | apply Kd.R_drewN | apply Kd.R_drew)); exact (Kd.R_mono (Kd.R_far (p := ⟨gb381, 1, none⟩) (Kd.R_far (p := ⟨gb381, 0, none⟩) (Kd.R_types HO_5.out BK381.out (by decide)) (fun _ hk => hk.2) (.int .i64 ((rd_T59 (rd_L8 l0_0 x15_1) x44_3).f0))) (fun _ hk => hk.2) (.int .i64 ((rd_T59 (rd_L8 l0_0 x15_1) x44_3).f1))) (fun _ h_ => h_.1))) hb); replace HO_8 := Aside0.mk (Kd.R_below (by (with_reducible repeat (first | apply Kd.R_alloc | apply Kd.R_drewN | apply Kd.R_drew)); exact (Kd.R_mono (Kd.R_far (p := ⟨gb381, 1, none⟩) (Kd.R_far (p := ⟨gb381, 0, none⟩) (Kd.R_types HO_8.out BK381.out (by decide)) (fun _ hk => hk.2) (.int .i64 ((rd_T59 (rd_L8 l0_0 x15_1) x44_3).f0))) (fun _ hk => hk.2) (.int .i64 ((rd_T59 (rd_L8 l0_0 x15_1) x44_3).f1))) (fun _ h_ => h_.1))) hb); replace BK362 := Aside0.mk (blk_below (g := gb362) (o := .cells #[.slice (some ad367) l0_0.length c0_0, .slice A0_1 l0_1.length c0_1, .slice A0_2 l0_2.length c0_2] 34 (0, 0)) (bf_ BK362 NB362_381).out hb); replace BK381 := Aside0.mk (blk_below (g := gb381) (o := .cells #[.int .i64 ((rd_T59 (rd_L8 l0_0 x15_1) x44_3).f0), .int .i64 ((rd_T59 (rd_L8 l0_0 x15_1) x44_3).f1)] 59 (0, 0)) (bp_ BK381) hb); replace HB := hb2_ HB hb GE362 GE381; (try clear hb)) | ((with_reducible refine gate_builtin (b := .append) (xs := #[.tmp 48, .tmp 52]) rfl ?_); at_builtin; refine Kd.R_append Kd.string (w0 := w) w.heap.size rfl (.tmp 48) (.tmp 52) 27 9 (.string ⟨#[]⟩) 16 rfl Tryz.underlying27 info9 rfl (by decide) (by omega) u8 x8_3 t382 [.string t382] (fun k_ => some k_ ≠ (u5 : Value).ownBlock) (fun _ => False) rfl rfl ?aP (fun _ hk => hk.elim) ?aF ?aO ?aB ?aS ?aL ?_; (case aP => exact rfl); (case aB => exact (sq_below2 HB.out GE362.out GE381.out)); (case aF => exact (fun k_ hk => Kd.fresh' (Kd.R_lt (sq_row HO_5.out)) k_ hk)); (case aO => exact (sq_row HO_8.out)); (case aS => exact (below_size (sq_below2 HB.out GE362.out GE381.out))); (case aL => have := LMc36.out; omega); intro v384 w41 ho hb hg hat; rw [← Ny383.out] at ho; have n0_ := Aside0.mk (Kd.R_after (ok := (fun _ => True)) (by (with_reducible repeat (first | apply Kd.R_alloc | apply Kd.R_drewN | apply Kd.R_drew)); exact Kd.R_mono HO_5.out (fun _ hk => ⟨trivial, hk⟩)) hg hat); have n1_ := Aside0.mk (blk_grown (g := gb362) (o := .cells #[.slice (some ad367) l0_0.length c0_0, .slice A0_1 l0_1.length c0_1, .slice A0_2 l0_2.length c0_2] 34 (0, 0)) (sq_blk BK362.out) hg (Kd.R_ne HO_8.out BK362.out (by decide))); have n2_ := Aside0.mk (blk_grown (g := gb381) (o := .cells #[.int .i64 ((rd_T59 (rd_L8 l0_0 x15_1) x44_3).f0), .int .i64 ((rd_T59 (rd_L8 l0_0 x15_1) x44_3).f1)] 59 (0, 0)) (sq_blk BK381.out) hg (Kd.R_ne HO_8.out BK381.out (by decide))); have n3_ := Aside0.mk (hb); have n4_ := Aside0.mk (ho); clear HO_5; clear BK362; clear BK381; clear HB; clear HO_8; have HO_5 := n0_; have BK362 := n1_; have BK381 := n2_; have HB := n3_; have HO385 := n4_; clear n0_ n1_ n2_ n3_ n4_; clear ho hb hg hat))
              go_roundg k3
              case measure => have := HK1.out; have := HJ9.out; have := HK3.out; omega
              case rel => exact ⟨(y383), (wrap64 (x44_3 + 1)), (by first | rfl | (simp; done) | (simp [*]; done)), H', ⟨by have := HK1.out; have := HJ9.out; have := HK3.out; omega⟩, ⟨by (with_reducible repeat (first | apply Kd.R_alloc | apply Kd.R_drewN | apply Kd.R_drew)); exact Kd.R_mono HO_5.out (fun _ hk => hk.2)⟩, ⟨by (with_reducible repeat (first | apply Kd.R_alloc | apply Kd.R_drewN | apply Kd.R_drew)); exact HO385.out⟩, bk_ BK362, ⟨sq_below2 HB.out GE362.out GE381.out⟩⟩
             ·
              rw [if_neg c36] at H; exact absurd H (by simp)
            ·
             rw [if_neg c34] at H; exact absurd H (by simp)
           ·
            rw [if_neg c33] at H; exact absurd H (by simp)
          ·
           rw [if_neg c32] at H; have c32b0 : decide (x44_3 < ((rd_L8 l0_0 x15_1).length : Int)) = false := decide_eq_false c32; clear c32; replace H := Option.bind_eq_some_iff.mp H; obtain ⟨t386, A420, H⟩ := H; (try dsimp only at H); have A42 := Aside0.mk A420; clear A420
           by_cases c43 : 1 + t386.size ≤ 9223372036854775807
           ·
            rw [if_pos c43] at H; have c43b0 := eq_true c43; have c43b1 : decide (1 + t386.size ≤ 9223372036854775807) = true := decide_eq_true c43
            try have c43b2 : (9223372036854775807 < 1 + t386.size) = False := eq_false (Nat.not_lt.2 c43)
            by_cases c44 : 1 + t386.size + 1 ≤ 9223372036854775807
            ·
             rw [if_pos c44] at H; have c44b0 := eq_true c44; have c44b1 : decide (1 + t386.size + 1 ≤ 9223372036854775807) = true := decide_eq_true c44
             try have c44b2 : (9223372036854775807 < 1 + t386.size + 1) = False := eq_false (Nat.not_lt.2 c44)
             by_cases c45 : x5_9.length < 8796093022208
             ·
              rw [if_pos c45] at H; have LMc45 := Aside0.mk c45; clear c45; obtain ⟨y387, hy387⟩ : ∃ y_ : List ByteArray, y_ = (x5_9 ++ [((⟨#[123]⟩ : ByteArray) ++ t386) ++ (⟨#[125]⟩ : ByteArray)]) := ⟨_, rfl⟩; replace H : (impl_segText.l0 k3 l1 y387 l0_0 (l0_0.length : Int) (wrap64 (x15_1 + 1)) l0_0 l0_1 l0_2) = some r := by first | (rw [hy387]; with_reducible exact H) | (have H2_ := (Option.bind_some _ _).symm.trans H; rw [hy387]; with_reducible exact H2_) | (have H2_ := (Option.bind_some _ _).symm.trans H; with_reducible exact H2_) | with_reducible exact H | (rw [hy387]; exact H) | exact H
              have Ny387 := Aside0.mk hy387; clear hy387; have H' := Aside0.mk H; clear H; obtain ⟨Ao46, co46, eo46⟩ := Kd.R_slice HO_8.out; subst eo46
              go_wp2_with (first | ((with_reducible refine gate_callee (f := 54) rfl ?_); refine gl_ 57 Tryz.func54 #[.slice Ao46 x8_3.length co46, .string (⟨#[44, 32]⟩ : ByteArray)] (h := ?_); (with_reducible refine (strings_Join.calls _ _ x8_3 (⟨#[44, 32]⟩ : ByteArray) t386 _ ?side1 ?side2 A42.out).mono ?_); (case side1 => exact sq_c ((Kd.R_reads' HO_8.out).2.2)); (case side2 => exact (Kd.R_reads' HO_8.out).2.1); rintro e w47 ⟨rfl, hb⟩; refine ⟨_, rfl, ?_⟩; replace HO_5 := Aside0.mk (Kd.R_below (sq_row HO_5.out) hb); replace HO_8 := Aside0.mk (Kd.R_below (sq_row HO_8.out) hb); replace BK362 := bb_ BK362 hb; replace HB := hb1_ HB hb GE362; (try clear hb)) | ((with_reducible refine gate_builtin (b := .append) (xs := #[.tmp 55, .tmp 60]) rfl ?_); at_builtin; refine Kd.R_append Kd.string (w0 := w) w.heap.size rfl (.tmp 55) (.tmp 60) 27 9 (.string ⟨#[]⟩) 16 rfl Tryz.underlying27 info9 rfl (by decide) (by omega) u5 x5_9 (((⟨#[123]⟩ : ByteArray) ++ t386) ++ (⟨#[125]⟩ : ByteArray)) [.string (((⟨#[123]⟩ : ByteArray) ++ t386) ++ (⟨#[125]⟩ : ByteArray))] (fun k_ => some k_ ≠ (.slice Ao46 x8_3.length co46 : Value).ownBlock) (fun _ => False) rfl rfl ?aP (fun _ hk => hk.elim) ?aF ?aO ?aB ?aS ?aL ?_; (case aP => exact rfl); (case aB => exact (sq_below1 HB.out GE362.out)); (case aF => exact (fun k_ hk => Kd.fresh' (Kd.R_lt (sq_row HO_8.out)) k_ hk)); (case aO => exact (sq_row HO_5.out)); (case aS => exact (below_size (sq_below1 HB.out GE362.out))); (case aL => have := LMc45.out; omega); intro v388 w48 ho hb hg hat; rw [← Ny387.out] at ho; have n0_ := Aside0.mk (Kd.R_after (ok := (fun _ => True)) (by (with_reducible repeat (first | apply Kd.R_alloc | apply Kd.R_drewN | apply Kd.R_drew)); exact Kd.R_mono HO_8.out (fun _ hk => ⟨trivial, hk⟩)) hg hat); have n1_ := Aside0.mk (blk_grown (g := gb362) (o := .cells #[.slice (some ad367) l0_0.length c0_0, .slice A0_1 l0_1.length c0_1, .slice A0_2 l0_2.length c0_2] 34 (0, 0)) (sq_blk BK362.out) hg (Kd.R_ne HO_5.out BK362.out (by decide))); have n2_ := Aside0.mk (hb); have n3_ := Aside0.mk (ho); clear HO_8; clear BK362; clear HB; clear HO_5; have HO_8 := n0_; have BK362 := n1_; have HB := n2_; have HO389 := n3_; clear n0_ n1_ n2_ n3_; clear ho hb hg hat))
              go_roundg k3
              case measure => have := HK1.out; have := HJ9.out; have := HK3.out; omega
              case rel => exact ⟨(y387), (wrap64 (x15_1 + 1)), (by first | rfl | (simp; done) | (simp [*]; done)), H', ⟨by have := HK1.out; have := HJ9.out; have := HK3.out; omega⟩, ⟨by (with_reducible repeat (first | apply Kd.R_alloc | apply Kd.R_drewN | apply Kd.R_drew)); exact Kd.R_mono HO389.out (fun _ hk => trivial)⟩, bk_ BK362, ⟨sq_below1 HB.out GE362.out⟩⟩
             ·
              rw [if_neg c45] at H; exact absurd H (by simp)
            ·
             rw [if_neg c44] at H; exact absurd H (by simp)
           ·
            rw [if_neg c43] at H; exact absurd H (by simp)
     ·
      rw [if_neg c9] at H; exact absurd H (by simp)
    ·
     rw [if_neg c8] at H; exact absurd H (by simp)
   ·
    rw [if_neg c7] at H; have c7b0 : decide (x15_1 < (l0_0.length : Int)) = false := decide_eq_false c7; clear c7; replace H := Option.bind_eq_some_iff.mp H; obtain ⟨t366, A490, H⟩ := H; replace H : (some t366) = some r := H; have A49 := Aside0.mk A490; clear A490; obtain rfl := Option.some.inj H; obtain ⟨Ao50, co50, eo50⟩ := Kd.R_slice HO_5.out; subst eo50
    go_wp2_with (first | ((with_reducible refine gate_callee (f := 54) rfl ?_); refine gl_ 64 Tryz.func54 #[.slice Ao50 x5_1.length co50, .string (⟨#[32]⟩ : ByteArray)] (h := ?_); (with_reducible refine (strings_Join.calls _ _ x5_1 (⟨#[32]⟩ : ByteArray) t366 _ ?side1 ?side2 A49.out).mono ?_); (case side1 => exact sq_c ((Kd.R_reads' HO_5.out).2.2)); (case side2 => exact (Kd.R_reads' HO_5.out).2.1); rintro e w51 ⟨rfl, hb⟩; refine ⟨_, rfl, ?_⟩; replace HO_5 := Aside0.mk (Kd.R_below (sq_row HO_5.out) hb); replace HB := hb_ HB hb; (try clear hb)))
    go_ret
    exact ⟨by first | rfl | (simp [errW_none, errW_some] <;> rfl) | (simp [*, errW_none, errW_some] <;> rfl), sq_below HB.out⟩

end Go.Proofs.YtfeloencepgdlaaGreatDoor.Q
namespace Go.Proofs.YtfeloencepgdlaaGreatDoor.Q
open Go.RowKit Go.Proofs.YtfeloencepgdlaaGreatDoorW.PrintWords Go.Proofs.YtfeloencepgdlaaGreatDoorW.PrintLast Go.Proofs.YtfeloencepgdlaaGreatDoorW.PrintMore
attribute [local go_sem] max2_int min2_int max_two min_two max_three min_three max_four min_four   -- for this text's walks alone
set_option linter.unusedVariables false
set_option linter.unusedSimpArgs false

/-! ### impl_SegText: function 9 -/
def impl_SegText.f (k : Nat) (a0 : Int) (a1 : Int) (l2_0 : List (List (S59))) (l2_1 : List (S66)) (l2_2 : List Bool) (l3 : List ByteArray) : Option (ByteArray) := (impl_SegOk.f k a0 a1 l2_0 l2_1 l2_2).bind fun t391 => (if t391 = true then ((impl_areLabels.f k l3 (wrap64 (a0 - 1))).bind fun t392 => (if t392 = true then ((impl_segText.f k l2_0 l2_1 l2_2 l3).bind fun t393 => (some t393)) else (some (⟨#[]⟩ : ByteArray)))) else (some (⟨#[]⟩ : ByteArray)))
theorem impl_SegText.mono : ∀ a0 a1 a2 a3 a4 a5 k, LeO (impl_SegText.f k a0 a1 a2 a3 a4 a5) (impl_SegText.f (k + 1) a0 a1 a2 a3 a4 a5) := by
 intro a0 a1 a2 a3 a4 a5 k; unfold impl_SegText.f
 repeat' first
   | (with_reducible exact impl_SegOk.mono _ _ _ _ _ _)
   | (with_reducible exact impl_areLabels.mono _ _ _)
   | (with_reducible exact impl_segText.mono _ _ _ _ _)
   | (with_reducible exact LeO.refl _)
   | (with_reducible exact LeO.none _)
   | (with_reducible refine LeO.ite ?_ ?_)
   | (with_reducible refine LeO.bind ?_ (fun _ => ?_))
   | exact impl_SegOk.mono _ _ _ _ _ _
   | exact impl_areLabels.mono _ _ _
   | exact impl_segText.mono _ _ _ _ _
   | exact LeO.none _
   | refine LeO.ite ?_ ?_
   | refine LeO.bind ?_ (fun _ => ?_)
set_option maxHeartbeats 8000000 in
set_option maxRecDepth 100000 in
theorem impl_SegText.calls (k : Nat) (a0 : Int) (a1 : Int) (A2_0 : Option Addr) (c2_0 : Nat) (l2_0 : List (List (S59))) (A2_1 : Option Addr) (c2_1 : Nat) (l2_1 : List (S66)) (A2_2 : Option Addr) (c2_2 : Nat) (l2_2 : List Bool) (A3 : Option Addr) (c3 : Nat) (l3 : List ByteArray) (r : ByteArray) (w : World) (hG0 : GL0 w) (hG1 : GL1 w) (hG2 : GL2 w) (hG3 : GL3 w) (hG4 : GL4 w) (hr2_0 : Kd.C (Kd.slice 59 k59) w A2_0 l2_0.length l2_0) (hc2_0 : l2_0.length ≤ c2_0) (hr2_1 : Kd.C k66 w A2_1 l2_1.length l2_1) (hc2_1 : l2_1.length ≤ c2_1) (hr2_2 : Kd.C Kd.bool w A2_2 l2_2.length l2_2) (hc2_2 : l2_2.length ≤ c2_2) (hr3 : Kd.C Kd.string w A3 l3.length l3) (hc3 : l3.length ≤ c3) (h : impl_SegText.f k a0 a1 l2_0 l2_1 l2_2 l3 = some r) :
  Calls Tryz.prog 9 #[.int .i64 a0, .int .i64 a1, .agg #[.slice A2_0 l2_0.length c2_0, .slice A2_1 l2_1.length c2_1, .slice A2_2 l2_2.length c2_2], .slice A3 l3.length c3] w fun e w' => e = .returned (.string r) ∧ Below w.heap.size w w' := by
 have hu34 := Tryz.underlying34; have HR2_0 := Aside0.mk hr2_0; have HC2_0 := Aside0.mk hc2_0; clear hr2_0 hc2_0; have HR2_1 := Aside0.mk hr2_1; have HC2_1 := Aside0.mk hc2_1; clear hr2_1 hc2_1; have HR2_2 := Aside0.mk hr2_2; have HC2_2 := Aside0.mk hc2_2; clear hr2_2 hc2_2; have HR3 := Aside0.mk hr3; have HC3 := Aside0.mk hc3; clear hr3 hc3; have HB := Aside0.mk (Below.refl w.heap.size w); have HG0 := Aside0.mk hG0; clear hG0; have HG1 := Aside0.mk hG1; clear hG1; have HG2 := Aside0.mk hG2; clear hG2; have HG3 := Aside0.mk hG3; clear hG3; have HG4 := Aside0.mk hG4; clear hG4; have H : ((impl_SegOk.f k a0 a1 l2_0 l2_1 l2_2).bind fun t391 => (if t391 = true then ((impl_areLabels.f k l3 (wrap64 (a0 - 1))).bind fun t392 => (if t392 = true then ((impl_segText.f k l2_0 l2_1 l2_2 l3).bind fun t393 => (some t393)) else (some (⟨#[]⟩ : ByteArray)))) else (some (⟨#[]⟩ : ByteArray)))) = some r := h; clear h; replace H := Option.bind_eq_some_iff.mp H; obtain ⟨t391, A50, H⟩ := H; (try dsimp only at H); have A5 := Aside0.mk A50; clear A50
 by_cases c6 : t391 = true
 ·
  subst c6; have H1 := ifp_ H
  clear H; have H := H1; clear H1; replace H := Option.bind_eq_some_iff.mp H; obtain ⟨t392, A70, H⟩ := H; (try dsimp only at H); have A7 := Aside0.mk A70; clear A70
  by_cases c8 : t392 = true
  ·
   subst c8; have H1 := ifp_ H
   clear H; have H := H1; clear H1; replace H := Option.bind_eq_some_iff.mp H; obtain ⟨t393, A90, H⟩ := H; replace H : (some t393) = some r := H; have A9 := Aside0.mk A90; clear A90; obtain rfl := Option.some.inj H
   go_enter Tryz.func9, Tryz.ntmps9
   go_wp2_with (first | ((with_reducible refine gate_dst (N := 6) rfl ?_); refine box_y 6 #[.slice A2_0 l2_0.length c2_0, .slice A2_1 l2_1.length c2_1, .slice A2_2 l2_2.length c2_2] 34 (h := ?_); intro gb390 hg w10 hbox hb; have n0_ := Aside0.mk (below_step (sq_below HB.out) hb); have n1_ := Aside0.mk (hbox); have n2_ := ge_ hg (below_size (sq_below HB.out)); have n3_ := ge_ hg (below_size (sq_below HB.out)); clear HB; have HB := n0_; have BK390 := n1_; have GW390 := n2_; have GE390 := n3_; clear n0_ n1_ n2_ n3_; clear hb hbox hg; have hcz11_0 := cl_ (v := .slice A2_0 l2_0.length c2_0) BK390 0; have hcz11_1 := cl_ (v := .slice A2_1 l2_1.length c2_1) BK390 1; have hcz11_2 := cl_ (v := .slice A2_2 l2_2.length c2_2) BK390 2; have hfz11_0 := blk_frozen BK390.out 0; have hfz11_1 := blk_frozen BK390.out 1; have hfz11_2 := blk_frozen BK390.out 2) | ((with_reducible refine gate_callee (f := 21) rfl ?_); refine gl_ 12 Tryz.func21 #[.int .i64 a0, .int .i64 a1, .agg #[.slice A2_0 l2_0.length c2_0, .slice A2_1 l2_1.length c2_1, .slice A2_2 l2_2.length c2_2]] (h := ?_); (with_reducible refine (impl_SegOk.calls k a0 a1 _ _ l2_0 _ _ l2_1 _ _ l2_2 true _ ?side7 ?side1 ?side2 ?side3 ?side4 ?side5 ?side6 A5.out).mono ?_); (case side1 => exact sq_c (Kd.C_below HR2_0.out HB.out)); (case side2 => exact HC2_0.out); (case side3 => exact sq_c (Kd.C_below HR2_1.out HB.out)); (case side4 => exact HC2_1.out); (case side5 => exact sq_c (Kd.C_below HR2_2.out HB.out)); (case side6 => exact HC2_2.out); (case side7 => exact GL0.below HG0.out (sq_below1 HB.out GE390.out)); rintro e w12 ⟨rfl, hb⟩; refine ⟨_, rfl, ?_⟩; replace BK390 := bb_ BK390 hb; replace HB := hb1_ HB hb GE390; (try clear hb)) | (go_at_call 22; (with_reducible refine (impl_areLabels.calls k _ _ l3 (wrap64 (a0 - 1)) true _ ?side3 ?side4 ?side5 ?side6 ?side1 ?side2 A7.out).mono ?_); (case side1 => exact sq_c (Kd.C_below HR3.out HB.out)); (case side2 => exact HC3.out); (case side3 => exact GL1.below HG1.out (sq_below1 HB.out GE390.out)); (case side4 => exact GL2.below HG2.out (sq_below1 HB.out GE390.out)); (case side5 => exact GL3.below HG3.out (sq_below1 HB.out GE390.out)); (case side6 => exact GL4.below HG4.out (sq_below1 HB.out GE390.out)); rintro e w13 ⟨rfl, hb⟩; replace BK390 := bb_ BK390 hb; replace HB := hb1_ HB hb GE390; (try clear hb); have hcz14_0 := cl_ (v := .slice A2_0 l2_0.length c2_0) BK390 0; have hcz14_1 := cl_ (v := .slice A2_1 l2_1.length c2_1) BK390 1; have hcz14_2 := cl_ (v := .slice A2_2 l2_2.length c2_2) BK390 2; have hfz14_0 := blk_frozen BK390.out 0; have hfz14_1 := blk_frozen BK390.out 1; have hfz14_2 := blk_frozen BK390.out 2) | ((with_reducible refine gate_callee (f := 23) rfl ?_); refine gl_ 23 Tryz.func23 #[.agg #[.slice A2_0 l2_0.length c2_0, .slice A2_1 l2_1.length c2_1, .slice A2_2 l2_2.length c2_2], .slice A3 l3.length c3] (h := ?_); (with_reducible refine (impl_segText.calls k _ _ l2_0 _ _ l2_1 _ _ l2_2 _ _ l3 t393 _ ?side9 ?side10 ?side1 ?side2 ?side3 ?side4 ?side5 ?side6 ?side7 ?side8 A9.out).mono ?_); (case side1 => exact sq_c (Kd.C_below HR2_0.out HB.out)); (case side2 => exact HC2_0.out); (case side3 => exact sq_c (Kd.C_below HR2_1.out HB.out)); (case side4 => exact HC2_1.out); (case side5 => exact sq_c (Kd.C_below HR2_2.out HB.out)); (case side6 => exact HC2_2.out); (case side7 => exact sq_c (Kd.C_below HR3.out HB.out)); (case side8 => exact HC3.out); (case side9 => exact GL0.below HG0.out (sq_below HB.out)); (case side10 => exact GL4.below HG4.out (sq_below HB.out)); rintro e w15 ⟨rfl, hb⟩; refine ⟨_, rfl, ?_⟩; replace HB := hb_ HB hb; (try clear hb)))
   go_ret
   exact ⟨by first | rfl | (simp [errW_none, errW_some] <;> rfl) | (simp [*, errW_none, errW_some] <;> rfl), sq_below HB.out⟩
  ·
   replace c8 := Bool.eq_false_iff.mpr c8; subst c8; have H1 := ifn_ H
   clear H; have H := H1; clear H1; obtain rfl := Option.some.inj H
   go_enter Tryz.func9, Tryz.ntmps9
   go_wp2_with (first | ((with_reducible refine gate_dst (N := 6) rfl ?_); refine box_y 6 #[.slice A2_0 l2_0.length c2_0, .slice A2_1 l2_1.length c2_1, .slice A2_2 l2_2.length c2_2] 34 (h := ?_); intro gb390 hg w16 hbox hb; have n0_ := Aside0.mk (below_step (sq_below HB.out) hb); have n1_ := Aside0.mk (hbox); have n2_ := ge_ hg (below_size (sq_below HB.out)); have n3_ := ge_ hg (below_size (sq_below HB.out)); clear HB; have HB := n0_; have BK390 := n1_; have GW390 := n2_; have GE390 := n3_; clear n0_ n1_ n2_ n3_; clear hb hbox hg; have hcz17_0 := cl_ (v := .slice A2_0 l2_0.length c2_0) BK390 0; have hcz17_1 := cl_ (v := .slice A2_1 l2_1.length c2_1) BK390 1; have hcz17_2 := cl_ (v := .slice A2_2 l2_2.length c2_2) BK390 2; have hfz17_0 := blk_frozen BK390.out 0; have hfz17_1 := blk_frozen BK390.out 1; have hfz17_2 := blk_frozen BK390.out 2) | ((with_reducible refine gate_callee (f := 21) rfl ?_); refine gl_ 12 Tryz.func21 #[.int .i64 a0, .int .i64 a1, .agg #[.slice A2_0 l2_0.length c2_0, .slice A2_1 l2_1.length c2_1, .slice A2_2 l2_2.length c2_2]] (h := ?_); (with_reducible refine (impl_SegOk.calls k a0 a1 _ _ l2_0 _ _ l2_1 _ _ l2_2 true _ ?side7 ?side1 ?side2 ?side3 ?side4 ?side5 ?side6 A5.out).mono ?_); (case side1 => exact sq_c (Kd.C_below HR2_0.out HB.out)); (case side2 => exact HC2_0.out); (case side3 => exact sq_c (Kd.C_below HR2_1.out HB.out)); (case side4 => exact HC2_1.out); (case side5 => exact sq_c (Kd.C_below HR2_2.out HB.out)); (case side6 => exact HC2_2.out); (case side7 => exact GL0.below HG0.out (sq_below HB.out)); rintro e w18 ⟨rfl, hb⟩; refine ⟨_, rfl, ?_⟩; replace HB := hb_ HB hb; (try clear hb)) | (go_at_call 22; (with_reducible refine (impl_areLabels.calls k _ _ l3 (wrap64 (a0 - 1)) false _ ?side3 ?side4 ?side5 ?side6 ?side1 ?side2 A7.out).mono ?_); (case side1 => exact sq_c (Kd.C_below HR3.out HB.out)); (case side2 => exact HC3.out); (case side3 => exact GL1.below HG1.out (sq_below HB.out)); (case side4 => exact GL2.below HG2.out (sq_below HB.out)); (case side5 => exact GL3.below HG3.out (sq_below HB.out)); (case side6 => exact GL4.below HG4.out (sq_below HB.out)); rintro e w19 ⟨rfl, hb⟩; replace HB := hb_ HB hb; (try clear hb)))
   go_ret
   exact ⟨by first | rfl | (simp [errW_none, errW_some] <;> rfl) | (simp [*, errW_none, errW_some] <;> rfl), sq_below HB.out⟩
 ·
  replace c6 := Bool.eq_false_iff.mpr c6; subst c6; have H1 := ifn_ H
  clear H; have H := H1; clear H1; obtain rfl := Option.some.inj H
  go_enter Tryz.func9, Tryz.ntmps9
  go_wp2_with (first | ((with_reducible refine gate_dst (N := 6) rfl ?_); refine box_y 6 #[.slice A2_0 l2_0.length c2_0, .slice A2_1 l2_1.length c2_1, .slice A2_2 l2_2.length c2_2] 34 (h := ?_); intro gb390 hg w20 hbox hb; have n0_ := Aside0.mk (below_step (sq_below HB.out) hb); have n1_ := Aside0.mk (hbox); have n2_ := ge_ hg (below_size (sq_below HB.out)); have n3_ := ge_ hg (below_size (sq_below HB.out)); clear HB; have HB := n0_; have BK390 := n1_; have GW390 := n2_; have GE390 := n3_; clear n0_ n1_ n2_ n3_; clear hb hbox hg; have hcz21_0 := cl_ (v := .slice A2_0 l2_0.length c2_0) BK390 0; have hcz21_1 := cl_ (v := .slice A2_1 l2_1.length c2_1) BK390 1; have hcz21_2 := cl_ (v := .slice A2_2 l2_2.length c2_2) BK390 2; have hfz21_0 := blk_frozen BK390.out 0; have hfz21_1 := blk_frozen BK390.out 1; have hfz21_2 := blk_frozen BK390.out 2) | ((with_reducible refine gate_callee (f := 21) rfl ?_); refine gl_ 12 Tryz.func21 #[.int .i64 a0, .int .i64 a1, .agg #[.slice A2_0 l2_0.length c2_0, .slice A2_1 l2_1.length c2_1, .slice A2_2 l2_2.length c2_2]] (h := ?_); (with_reducible refine (impl_SegOk.calls k a0 a1 _ _ l2_0 _ _ l2_1 _ _ l2_2 false _ ?side7 ?side1 ?side2 ?side3 ?side4 ?side5 ?side6 A5.out).mono ?_); (case side1 => exact sq_c (Kd.C_below HR2_0.out HB.out)); (case side2 => exact HC2_0.out); (case side3 => exact sq_c (Kd.C_below HR2_1.out HB.out)); (case side4 => exact HC2_1.out); (case side5 => exact sq_c (Kd.C_below HR2_2.out HB.out)); (case side6 => exact HC2_2.out); (case side7 => exact GL0.below HG0.out (sq_below HB.out)); rintro e w22 ⟨rfl, hb⟩; refine ⟨_, rfl, ?_⟩; replace HB := hb_ HB hb; (try clear hb)))
  go_ret
  exact ⟨by first | rfl | (simp [errW_none, errW_some] <;> rfl) | (simp [*, errW_none, errW_some] <;> rfl), sq_below HB.out⟩

/-! ### laws_eqSym: function 83 -/
def laws_eqSym.f (a0_0 : Int) (a0_1 : Int) (a1_0 : Int) (a1_1 : Int) : Option (Bool) := if a0_0 = a1_0 then (if a0_1 = a1_1 then (some true) else (some false)) else (some false)
set_option maxHeartbeats 8000000 in
set_option maxRecDepth 100000 in
theorem laws_eqSym.calls (a0_0 : Int) (a0_1 : Int) (a1_0 : Int) (a1_1 : Int) (r : Bool) (w : World) (h : laws_eqSym.f a0_0 a0_1 a1_0 a1_1 = some r) :
  Calls Tryz.prog 83 #[.agg #[.int .i64 a0_0, .int .i64 a0_1], .agg #[.int .i64 a1_0, .int .i64 a1_1]] w fun e w' => e = .returned (.bool r) ∧ Below w.heap.size w w' := by
 have hu59 := Tryz.underlying59; have HB := Aside0.mk (Below.refl w.heap.size w); have H : (if a0_0 = a1_0 then (if a0_1 = a1_1 then (some true) else (some false)) else (some false)) = some r := h; clear h
 by_cases c3 : a0_0 = a1_0
 ·
  rw [if_pos c3] at H; have c3b0 : (a0_0 == a1_0) = true := beq_iff_eq.mpr c3; have c3b1 : (a0_0 != a1_0) = false := bne_eq_false_iff_eq.mpr c3; clear c3
  by_cases c4 : a0_1 = a1_1
  ·
   rw [if_pos c4] at H; have c4b0 : (a0_1 == a1_1) = true := beq_iff_eq.mpr c4; have c4b1 : (a0_1 != a1_1) = false := bne_eq_false_iff_eq.mpr c4; clear c4; obtain rfl := Option.some.inj H
   go_enter Tryz.func83, Tryz.ntmps83
   go_wp2_with (first | ((with_reducible refine gate_dst (N := 2) rfl ?_); refine box_y 2 #[.int .i64 a0_0, .int .i64 a0_1] 59 (h := ?_); intro gb394 hg w5 hbox hb; have n0_ := Aside0.mk (below_step (sq_below HB.out) hb); have n1_ := Aside0.mk (hbox); have n2_ := ge_ hg (below_size (sq_below HB.out)); have n3_ := ge_ hg (below_size (sq_below HB.out)); clear HB; have HB := n0_; have BK394 := n1_; have GW394 := n2_; have GE394 := n3_; clear n0_ n1_ n2_ n3_; clear hb hbox hg) | ((with_reducible refine gate_dst (N := 3) rfl ?_); refine box_y 3 #[.int .i64 a1_0, .int .i64 a1_1] 59 (h := ?_); intro gb395 hg w6 hbox hb; have n0_ := Aside0.mk (blk_below (sq_blk BK394.out) hb); have n1_ := Aside0.mk (below_step (sq_below1 HB.out GE394.out) hb); have n2_ := Aside0.mk (hbox); have n3_ := ge_ hg (below_size (sq_below1 HB.out GE394.out)); have n4_ := ge_ hg (below_size (sq_below1 HB.out GE394.out)); have n5_ := nb_ hg BK394; have n6_ := Aside0.mk (Ne.symm n5_.out); clear BK394; clear HB; have BK394 := n0_; have HB := n1_; have BK395 := n2_; have GW395 := n3_; have GE395 := n4_; have NB394_395 := n5_; have NB395_394 := n6_; clear n0_ n1_ n2_ n3_ n4_ n5_ n6_; clear hb hbox hg; have hnb7 := NB394_395.out; have hnc7 := NB395_394.out; have hcz8_0 := cl_ (v := .int .i64 a0_0) BK394 0; have hcz8_1 := cl_ (v := .int .i64 a0_1) BK394 1; have hfz8_0 := blk_frozen BK394.out 0; have hfz8_1 := blk_frozen BK394.out 1; have hcz9_0 := cl_ (v := .int .i64 a1_0) BK395 0; have hcz9_1 := cl_ (v := .int .i64 a1_1) BK395 1; have hfz9_0 := blk_frozen BK395.out 0; have hfz9_1 := blk_frozen BK395.out 1))
   go_ret
   exact ⟨by first | rfl | (simp [errW_none, errW_some] <;> rfl) | (simp [*, errW_none, errW_some] <;> rfl), sq_below1 HB.out GE395.out⟩
  ·
   rw [if_neg c4] at H; have c4b0 : (a0_1 == a1_1) = false := beq_eq_false_iff_ne.mpr c4; have c4b1 : (a0_1 != a1_1) = true := bne_iff_ne.mpr c4; obtain rfl := Option.some.inj H
   go_enter Tryz.func83, Tryz.ntmps83
   go_wp2_with (first | ((with_reducible refine gate_dst (N := 2) rfl ?_); refine box_y 2 #[.int .i64 a0_0, .int .i64 a0_1] 59 (h := ?_); intro gb394 hg w10 hbox hb; have n0_ := Aside0.mk (below_step (sq_below HB.out) hb); have n1_ := Aside0.mk (hbox); have n2_ := ge_ hg (below_size (sq_below HB.out)); have n3_ := ge_ hg (below_size (sq_below HB.out)); clear HB; have HB := n0_; have BK394 := n1_; have GW394 := n2_; have GE394 := n3_; clear n0_ n1_ n2_ n3_; clear hb hbox hg) | ((with_reducible refine gate_dst (N := 3) rfl ?_); refine box_y 3 #[.int .i64 a1_0, .int .i64 a1_1] 59 (h := ?_); intro gb395 hg w11 hbox hb; have n0_ := Aside0.mk (blk_below (sq_blk BK394.out) hb); have n1_ := Aside0.mk (below_step (sq_below1 HB.out GE394.out) hb); have n2_ := Aside0.mk (hbox); have n3_ := ge_ hg (below_size (sq_below1 HB.out GE394.out)); have n4_ := ge_ hg (below_size (sq_below1 HB.out GE394.out)); have n5_ := nb_ hg BK394; have n6_ := Aside0.mk (Ne.symm n5_.out); clear BK394; clear HB; have BK394 := n0_; have HB := n1_; have BK395 := n2_; have GW395 := n3_; have GE395 := n4_; have NB394_395 := n5_; have NB395_394 := n6_; clear n0_ n1_ n2_ n3_ n4_ n5_ n6_; clear hb hbox hg; have hnb12 := NB394_395.out; have hnc12 := NB395_394.out; have hcz13_0 := cl_ (v := .int .i64 a0_0) BK394 0; have hcz13_1 := cl_ (v := .int .i64 a0_1) BK394 1; have hfz13_0 := blk_frozen BK394.out 0; have hfz13_1 := blk_frozen BK394.out 1; have hcz14_0 := cl_ (v := .int .i64 a1_0) BK395 0; have hcz14_1 := cl_ (v := .int .i64 a1_1) BK395 1; have hfz14_0 := blk_frozen BK395.out 0; have hfz14_1 := blk_frozen BK395.out 1))
   go_ret
   exact ⟨by first | rfl | (simp [errW_none, errW_some] <;> rfl) | (simp [*, errW_none, errW_some] <;> rfl), sq_below1 HB.out GE395.out⟩
 ·
  rw [if_neg c3] at H; have c3b0 : (a0_0 == a1_0) = false := beq_eq_false_iff_ne.mpr c3; have c3b1 : (a0_0 != a1_0) = true := bne_iff_ne.mpr c3; obtain rfl := Option.some.inj H
  go_enter Tryz.func83, Tryz.ntmps83
  go_wp2_with (first | ((with_reducible refine gate_dst (N := 2) rfl ?_); refine box_y 2 #[.int .i64 a0_0, .int .i64 a0_1] 59 (h := ?_); intro gb394 hg w15 hbox hb; have n0_ := Aside0.mk (below_step (sq_below HB.out) hb); have n1_ := Aside0.mk (hbox); have n2_ := ge_ hg (below_size (sq_below HB.out)); have n3_ := ge_ hg (below_size (sq_below HB.out)); clear HB; have HB := n0_; have BK394 := n1_; have GW394 := n2_; have GE394 := n3_; clear n0_ n1_ n2_ n3_; clear hb hbox hg) | ((with_reducible refine gate_dst (N := 3) rfl ?_); refine box_y 3 #[.int .i64 a1_0, .int .i64 a1_1] 59 (h := ?_); intro gb395 hg w16 hbox hb; have n0_ := Aside0.mk (blk_below (sq_blk BK394.out) hb); have n1_ := Aside0.mk (below_step (sq_below1 HB.out GE394.out) hb); have n2_ := Aside0.mk (hbox); have n3_ := ge_ hg (below_size (sq_below1 HB.out GE394.out)); have n4_ := ge_ hg (below_size (sq_below1 HB.out GE394.out)); have n5_ := nb_ hg BK394; have n6_ := Aside0.mk (Ne.symm n5_.out); clear BK394; clear HB; have BK394 := n0_; have HB := n1_; have BK395 := n2_; have GW395 := n3_; have GE395 := n4_; have NB394_395 := n5_; have NB395_394 := n6_; clear n0_ n1_ n2_ n3_ n4_ n5_ n6_; clear hb hbox hg; have hnb17 := NB394_395.out; have hnc17 := NB395_394.out; have hcz18_0 := cl_ (v := .int .i64 a0_0) BK394 0; have hcz18_1 := cl_ (v := .int .i64 a0_1) BK394 1; have hfz18_0 := blk_frozen BK394.out 0; have hfz18_1 := blk_frozen BK394.out 1; have hcz19_0 := cl_ (v := .int .i64 a1_0) BK395 0; have hcz19_1 := cl_ (v := .int .i64 a1_1) BK395 1; have hfz19_0 := blk_frozen BK395.out 0; have hfz19_1 := blk_frozen BK395.out 1))
  go_ret
  exact ⟨by first | rfl | (simp [errW_none, errW_some] <;> rfl) | (simp [*, errW_none, errW_some] <;> rfl), sq_below1 HB.out GE395.out⟩

end Go.Proofs.YtfeloencepgdlaaGreatDoor.Q
namespace Go.Proofs.YtfeloencepgdlaaGreatDoor.Q
open Go.RowKit Go.Proofs.YtfeloencepgdlaaGreatDoorW.PrintWords Go.Proofs.YtfeloencepgdlaaGreatDoorW.PrintLast Go.Proofs.YtfeloencepgdlaaGreatDoorW.PrintMore
attribute [local go_sem] max2_int min2_int max_two min_two max_three min_three max_four min_four   -- for this text's walks alone
set_option linter.unusedVariables false
set_option linter.unusedSimpArgs false

/-! ### laws_eqSymS: function 55 -/
abbrev laws_eqSymS.b0_ : Array Bool := #[false, false, false, false, false, false, false, false, false, false]
abbrev laws_eqSymS.b1_ : Array Bool := #[true, false, false, false, false, false, false, false, false, false]
abbrev laws_eqSymS.b2_ : Array Bool := #[true, true, false, false, false, false, false, false, false, false]
abbrev laws_eqSymS.b3_ : Array Bool := #[true, true, true, false, false, false, false, false, false, false]
abbrev laws_eqSymS.b4_ : Array Bool := #[true, true, true, false, true, false, false, false, false, false]
abbrev laws_eqSymS.b5_ : Array Bool := #[true, true, true, false, true, true, false, false, false, false]
abbrev laws_eqSymS.b6_ : Array Bool := #[true, true, true, false, true, true, true, false, false, false]
abbrev laws_eqSymS.b7_ : Array Bool := #[true, true, true, true, true, true, true, false, false, false]
abbrev laws_eqSymS.b8_ : Array Bool := #[true, true, true, true, true, true, true, true, false, false]
abbrev laws_eqSymS.b9_ : Array Bool := #[true, true, true, true, true, true, true, true, true, false]
abbrev laws_eqSymS.b10_ : Array Bool := #[true, true, true, true, true, true, true, true, true, true]
def laws_eqSymS.l0 : Nat → List (S59) → List (S59) → Int → Option (Bool)
 | 0, _, _, _ => none
 | k + 1, x0, x1, x5 => if x5 < (x0.length : Int) then (if 0 ≤ x5 then (if x5 < (x1.length : Int) then ((laws_eqSym.f ((rd_T59 x0 x5).f0) ((rd_T59 x0 x5).f1) ((rd_T59 x1 x5).f0) ((rd_T59 x1 x5).f1)).bind fun t398 => (if t398 = true then (laws_eqSymS.l0 k x0 x1 (wrap64 (x5 + 1))) else (some false))) else (none)) else (none)) else (some true)
def laws_eqSymS.f (k : Nat) (l0 : List (S59)) (l1 : List (S59)) : Option (Bool) := if (l0.length : Int) = (l1.length : Int) then (laws_eqSymS.l0 k l0 l1 0) else (some false)
theorem laws_eqSymS.mono_l : ∀ k, (∀ y0 y1 y2, LeO (laws_eqSymS.l0 k y0 y1 y2) (laws_eqSymS.l0 (k + 1) y0 y1 y2))
 | 0 => fun _ _ _ r h => by simp [laws_eqSymS.l0] at h
 | k + 1 => by
  have ih0 := laws_eqSymS.mono_l k
  ·
   intro y0 y1 y2; unfold laws_eqSymS.l0
   repeat' first
   | (with_reducible exact ih0 _ _ _)
   | (with_reducible exact LeO.refl _)
   | (with_reducible exact LeO.none _)
   | (with_reducible refine LeO.ite ?_ ?_)
   | (with_reducible refine LeO.bind ?_ (fun _ => ?_))
   | exact ih0 _ _ _
   | exact LeO.none _
   | refine LeO.ite ?_ ?_
   | refine LeO.bind ?_ (fun _ => ?_)
theorem laws_eqSymS.mono : ∀ a0 a1 k, LeO (laws_eqSymS.f k a0 a1) (laws_eqSymS.f (k + 1) a0 a1) := by
 intro a0 a1 k; have ih0 := laws_eqSymS.mono_l k; unfold laws_eqSymS.f
 repeat' first
   | (with_reducible exact ih0 _ _ _)
   | (with_reducible exact LeO.refl _)
   | (with_reducible exact LeO.none _)
   | (with_reducible refine LeO.ite ?_ ?_)
   | (with_reducible refine LeO.bind ?_ (fun _ => ?_))
   | exact ih0 _ _ _
   | exact LeO.none _
   | refine LeO.ite ?_ ?_
   | refine LeO.bind ?_ (fun _ => ?_)
def laws_eqSymS.T6 : Bool × List (List Nat × List Nat) := (true, [([], []), ([], []), ([0, 1], [0, 1]), ([2], [2]), ([], []), ([], []), ([4, 5], [4, 5]), ([6], [6]), ([3, 7], [3, 7]), ([8], [8])])
def laws_eqSymS.B6 : List Nat := [0, 0, 3, 7, 0, 0, 48, 112, 255, 511]
theorem laws_eqSymS.tab6 : rtab .any (opsOf Tryz.f55 6) = laws_eqSymS.T6 := by kernel_rfl
theorem laws_eqSymS.bits6 : waitsOk laws_eqSymS.T6.2 laws_eqSymS.B6 = true := by kernel_rfl
set_option maxHeartbeats 8000000 in
set_option maxRecDepth 100000 in
theorem laws_eqSymS.calls (k : Nat) (A0 : Option Addr) (c0 : Nat) (l0 : List (S59)) (A1 : Option Addr) (c1 : Nat) (l1 : List (S59)) (r : Bool) (w : World) (hr0 : Kd.C k59 w A0 l0.length l0) (hc0 : l0.length ≤ c0) (hr1 : Kd.C k59 w A1 l1.length l1) (hc1 : l1.length ≤ c1) (h : laws_eqSymS.f k l0 l1 = some r) :
  Calls Tryz.prog 55 #[.slice A0 l0.length c0, .slice A1 l1.length c1] w fun e w' => e = .returned (.bool r) ∧ Below w.heap.size w w' := by
 have hu59 := Tryz.underlying59; have HR0 := Aside0.mk hr0; have HC0 := Aside0.mk hc0; clear hr0 hc0; have HR1 := Aside0.mk hr1; have HC1 := Aside0.mk hc1; clear hr1 hc1; have HB := Aside0.mk (Below.refl w.heap.size w); have H : (if (l0.length : Int) = (l1.length : Int) then (laws_eqSymS.l0 k l0 l1 0) else (some false)) = some r := h; clear h
 by_cases c3 : (l0.length : Int) = (l1.length : Int)
 ·
  rw [if_pos c3] at H; have c3b0 : ((l0.length : Int) == (l1.length : Int)) = true := beq_iff_eq.mpr c3; have c3b1 : ((l0.length : Int) != (l1.length : Int)) = false := bne_eq_false_iff_eq.mpr c3; have c3b2 : (l0.length == l1.length) = true := by first | simpa using c3 | (simp at c3 ⊢; omega)
  clear c3; have H' := Aside0.mk H; clear H
  go_enter Tryz.func55, Tryz.ntmps55
  go_wp2
  go_loopg [5] k (fun kq v5 w' => ∃ (x5_1 : Int), v5 = .int .i64 x5_1 ∧ Aside0 (laws_eqSymS.l0 kq l0 l1 x5_1 = some r) ∧ Aside0 (kq ≤ k) ∧ Aside0 (Below w.heap.size w w'))
  case atStart => exact ⟨(0), (by first | rfl | (simp; done) | (simp [*]; done)), H', ⟨Nat.le_refl _⟩, ⟨sq_below HB.out⟩⟩
  case round =>
   clear H'
   try clear c1
   try clear p2
   try clear c3
   try clear c3b0
   try clear c3b1
   try clear c3b2
   obtain ⟨x5_1, rfl, HA, HK1, HB⟩ := hrel; cases gk with
   | zero => exact absurd HA.out (by simp [laws_eqSymS.l0])
   | succ k1 =>
    have H := HA.out; clear HA; simp only [laws_eqSymS.l0] at H
    by_cases c4 : x5_1 < (l0.length : Int)
    ·
     rw [if_pos c4] at H; have c4b0 : decide (x5_1 < (l0.length : Int)) = true := decide_eq_true c4; clear c4
     by_cases c5 : 0 ≤ x5_1
     ·
      rw [if_pos c5] at H; have c5b0 : decide (0 ≤ x5_1) = true := decide_eq_true c5; clear c5
      by_cases c6 : x5_1 < (l1.length : Int)
      ·
       rw [if_pos c6] at H; have c6b0 : decide (x5_1 < (l1.length : Int)) = true := decide_eq_true c6; clear c6; replace H := Option.bind_eq_some_iff.mp H; obtain ⟨t398, A70, H⟩ := H; (try dsimp only at H); have A7 := Aside0.mk A70; clear A70
       by_cases c8 : t398 = true
       ·
        subst c8; have H1 := ifp_ H
        clear H; have H := H1; clear H1; have H' := Aside0.mk H; clear H
        try go_wp2
        replace HB := hd_ HB; have p396 : 0 ≤ (x5_1 : Int) := sq_dec; have q396 : x5_1 < (l0.length : Int) := sq_dec; obtain ⟨ad396, e396, hx396_0, hx396_1⟩ := at_T59 HR0.out x5_1 p396 q396; have hw396_1 := hx396_1; have hw396_0 := hx396_0; cases e396; replace hx396_0 := (HB.out.cell (World.block_lt_of_cell? w _ hx396_0)).trans hx396_0; replace hx396_1 := (HB.out.cell (World.block_lt_of_cell? w _ hx396_1)).trans hx396_1; replace p396 := eq_true p396; replace q396 := eq_true q396; have p397 : 0 ≤ (x5_1 : Int) := sq_dec; have q397 : x5_1 < (l1.length : Int) := sq_dec; obtain ⟨ad397, e397, hx397_0, hx397_1⟩ := at_T59 HR1.out x5_1 p397 q397; have hw397_1 := hx397_1; have hw397_0 := hx397_0; cases e397; replace hx397_0 := (HB.out.cell (World.block_lt_of_cell? w _ hx397_0)).trans hx397_0; replace hx397_1 := (HB.out.cell (World.block_lt_of_cell? w _ hx397_1)).trans hx397_1; replace p397 := eq_true p397; replace q397 := eq_true q397; refine start_ (n := 10) (S := fun w' => w'.cell? (ad396.add ((x5_1).toNat * 2)) = some (.int .i64 ((rd_T59 l0 x5_1).f0)) ∧ w'.cell? ⟨(ad396.add ((x5_1).toNat * 2)).block, (ad396.add ((x5_1).toNat * 2)).off + 1, none⟩ = some (.int .i64 ((rd_T59 l0 x5_1).f1)) ∧ w'.cell? (ad397.add ((x5_1).toNat * 2)) = some (.int .i64 ((rd_T59 l1 x5_1).f0)) ∧ w'.cell? ⟨(ad397.add ((x5_1).toNat * 2)).block, (ad397.add ((x5_1).toNat * 2)).off + 1, none⟩ = some (.int .i64 ((rd_T59 l1 x5_1).f1))) (ds := []) laws_eqSymS.b0_ (by kernel_rfl) rfl rfl ⟨((HB.out.cell (World.block_lt_of_cell? w _ hw396_0)).trans hw396_0), ((HB.out.cell (World.block_lt_of_cell? w _ hw396_1)).trans hw396_1), ((HB.out.cell (World.block_lt_of_cell? w _ hw397_0)).trans hw397_0), ((HB.out.cell (World.block_lt_of_cell? w _ hw397_1)).trans hw397_1)⟩ (fun hHeld => ?_); refine with_tabW laws_eqSymS.tab6 laws_eqSymS.bits6 (fun HT_ HW_ => ?_); generalize wr.drew = w9 at HB hx396_0 hx396_1 hx397_0 hx397_1 hHeld ⊢; refine pure_y 0 (some 17) laws_eqSymS.b1_ (any_of HT_.out (by kernel_rfl)) (h := ?_)
        refine pure_y 1 (some 18) laws_eqSymS.b2_ (any_of HT_.out (by kernel_rfl)) (h := ?_)
        refine pure_y 2 (some 19) laws_eqSymS.b3_ (any_of HT_.out (by kernel_rfl)) (h := ?_)
        refine pure_y 4 (some 21) laws_eqSymS.b4_ (any_of HT_.out (by kernel_rfl)) (h := ?_)
        refine pure_y 5 (some 22) laws_eqSymS.b5_ (any_of HT_.out (by kernel_rfl)) (h := ?_)
        refine pure_y 6 (some 23) laws_eqSymS.b6_ (any_of HT_.out (by kernel_rfl)) (h := ?_)
        refine take_y 3 (some 20) laws_eqSymS.b7_ rfl (take_ofW HT_.out HW_.out (by kernel_rfl)) hHeld (Or.inl ⟨by rfl, (by rintro w' ⟨s0, s1, s2, s3⟩; go_simp; with_reducible rfl)⟩) (h := ?_)
        refine take_y 7 (some 24) laws_eqSymS.b8_ rfl (take_ofW HT_.out HW_.out (by kernel_rfl)) hHeld (Or.inl ⟨by rfl, (by rintro w' ⟨s0, s1, s2, s3⟩; go_simp; with_reducible rfl)⟩) (h := ?_)
        refine one_ (i := 8) (N := some 25) laws_eqSymS.b9_ rfl rfl (one_of HT_.out (by kernel_rfl)) (by decide) (fun K hK => ?_); refine gs_ Tryz.func83 #[.agg #[.int .i64 ((rd_T59 l0 x5_1).f0), .int .i64 ((rd_T59 l0 x5_1).f1)], .agg #[.int .i64 ((rd_T59 l1 x5_1).f0), .int .i64 ((rd_T59 l1 x5_1).f1)]] (h := ?_); with_reducible refine (laws_eqSym.calls ((rd_T59 l0 x5_1).f0) ((rd_T59 l0 x5_1).f1) ((rd_T59 l1 x5_1).f0) ((rd_T59 l1 x5_1).f1) true _ A7.out).mono ?_
        rintro e w10 ⟨rfl, hb⟩; refine ⟨_, rfl, ?_⟩; replace HB := hb_ HB hb
        (try clear hb)
        (try clear hb2)
        (try clear hk)
        (try clear hi)
        refine hK.out _ _ ⟨((HB.out.cell (World.block_lt_of_cell? w _ hw396_0)).trans hw396_0), ((HB.out.cell (World.block_lt_of_cell? w _ hw396_1)).trans hw396_1), ((HB.out.cell (World.block_lt_of_cell? w _ hw397_0)).trans hw397_0), ((HB.out.cell (World.block_lt_of_cell? w _ hw397_1)).trans hw397_1)⟩ (fun hHeld => ?_); clear hK K; refine norm_y 25 (h := ?_)
        refine pure_y 9 (some 26) laws_eqSymS.b10_ (any_of HT_.out (by kernel_rfl)) (h := ?_)
        refine done_ (done_of HT_.out (by kernel_rfl)) ?_
        try go_wp2
        go_roundg k1
        case measure => have := HK1.out; omega
        case rel => exact ⟨(wrap64 (x5_1 + 1)), (by first | rfl | (simp; done) | (simp [*]; done)), H', ⟨by have := HK1.out; omega⟩, ⟨sq_below HB.out⟩⟩
       ·
        replace c8 := Bool.eq_false_iff.mpr c8; subst c8; have H1 := ifn_ H
        clear H; have H := H1; clear H1; obtain rfl := Option.some.inj H
        try go_wp2
        replace HB := hd_ HB; have p396 : 0 ≤ (x5_1 : Int) := sq_dec; have q396 : x5_1 < (l0.length : Int) := sq_dec; obtain ⟨ad396, e396, hx396_0, hx396_1⟩ := at_T59 HR0.out x5_1 p396 q396; have hw396_1 := hx396_1; have hw396_0 := hx396_0; cases e396; replace hx396_0 := (HB.out.cell (World.block_lt_of_cell? w _ hx396_0)).trans hx396_0; replace hx396_1 := (HB.out.cell (World.block_lt_of_cell? w _ hx396_1)).trans hx396_1; replace p396 := eq_true p396; replace q396 := eq_true q396; have p397 : 0 ≤ (x5_1 : Int) := sq_dec; have q397 : x5_1 < (l1.length : Int) := sq_dec; obtain ⟨ad397, e397, hx397_0, hx397_1⟩ := at_T59 HR1.out x5_1 p397 q397; have hw397_1 := hx397_1; have hw397_0 := hx397_0; cases e397; replace hx397_0 := (HB.out.cell (World.block_lt_of_cell? w _ hx397_0)).trans hx397_0; replace hx397_1 := (HB.out.cell (World.block_lt_of_cell? w _ hx397_1)).trans hx397_1; replace p397 := eq_true p397; replace q397 := eq_true q397; refine start_ (n := 10) (S := fun w' => w'.cell? (ad396.add ((x5_1).toNat * 2)) = some (.int .i64 ((rd_T59 l0 x5_1).f0)) ∧ w'.cell? ⟨(ad396.add ((x5_1).toNat * 2)).block, (ad396.add ((x5_1).toNat * 2)).off + 1, none⟩ = some (.int .i64 ((rd_T59 l0 x5_1).f1)) ∧ w'.cell? (ad397.add ((x5_1).toNat * 2)) = some (.int .i64 ((rd_T59 l1 x5_1).f0)) ∧ w'.cell? ⟨(ad397.add ((x5_1).toNat * 2)).block, (ad397.add ((x5_1).toNat * 2)).off + 1, none⟩ = some (.int .i64 ((rd_T59 l1 x5_1).f1))) (ds := []) laws_eqSymS.b0_ (by kernel_rfl) rfl rfl ⟨((HB.out.cell (World.block_lt_of_cell? w _ hw396_0)).trans hw396_0), ((HB.out.cell (World.block_lt_of_cell? w _ hw396_1)).trans hw396_1), ((HB.out.cell (World.block_lt_of_cell? w _ hw397_0)).trans hw397_0), ((HB.out.cell (World.block_lt_of_cell? w _ hw397_1)).trans hw397_1)⟩ (fun hHeld => ?_); refine with_tabW laws_eqSymS.tab6 laws_eqSymS.bits6 (fun HT_ HW_ => ?_); generalize wr.drew = w11 at HB hx396_0 hx396_1 hx397_0 hx397_1 hHeld ⊢; refine pure_y 0 (some 17) laws_eqSymS.b1_ (any_of HT_.out (by kernel_rfl)) (h := ?_)
        refine pure_y 1 (some 18) laws_eqSymS.b2_ (any_of HT_.out (by kernel_rfl)) (h := ?_)
        refine pure_y 2 (some 19) laws_eqSymS.b3_ (any_of HT_.out (by kernel_rfl)) (h := ?_)
        refine pure_y 4 (some 21) laws_eqSymS.b4_ (any_of HT_.out (by kernel_rfl)) (h := ?_)
        refine pure_y 5 (some 22) laws_eqSymS.b5_ (any_of HT_.out (by kernel_rfl)) (h := ?_)
        refine pure_y 6 (some 23) laws_eqSymS.b6_ (any_of HT_.out (by kernel_rfl)) (h := ?_)
        refine take_y 3 (some 20) laws_eqSymS.b7_ rfl (take_ofW HT_.out HW_.out (by kernel_rfl)) hHeld (Or.inl ⟨by rfl, (by rintro w' ⟨s0, s1, s2, s3⟩; go_simp; with_reducible rfl)⟩) (h := ?_)
        refine take_y 7 (some 24) laws_eqSymS.b8_ rfl (take_ofW HT_.out HW_.out (by kernel_rfl)) hHeld (Or.inl ⟨by rfl, (by rintro w' ⟨s0, s1, s2, s3⟩; go_simp; with_reducible rfl)⟩) (h := ?_)
        refine one_ (i := 8) (N := some 25) laws_eqSymS.b9_ rfl rfl (one_of HT_.out (by kernel_rfl)) (by decide) (fun K hK => ?_); refine gs_ Tryz.func83 #[.agg #[.int .i64 ((rd_T59 l0 x5_1).f0), .int .i64 ((rd_T59 l0 x5_1).f1)], .agg #[.int .i64 ((rd_T59 l1 x5_1).f0), .int .i64 ((rd_T59 l1 x5_1).f1)]] (h := ?_); with_reducible refine (laws_eqSym.calls ((rd_T59 l0 x5_1).f0) ((rd_T59 l0 x5_1).f1) ((rd_T59 l1 x5_1).f0) ((rd_T59 l1 x5_1).f1) false _ A7.out).mono ?_
        rintro e w12 ⟨rfl, hb⟩; refine ⟨_, rfl, ?_⟩; replace HB := hb_ HB hb
        (try clear hb)
        (try clear hb2)
        (try clear hk)
        (try clear hi)
        refine hK.out _ _ ⟨((HB.out.cell (World.block_lt_of_cell? w _ hw396_0)).trans hw396_0), ((HB.out.cell (World.block_lt_of_cell? w _ hw396_1)).trans hw396_1), ((HB.out.cell (World.block_lt_of_cell? w _ hw397_0)).trans hw397_0), ((HB.out.cell (World.block_lt_of_cell? w _ hw397_1)).trans hw397_1)⟩ (fun hHeld => ?_); clear hK K; refine norm_y 25 (h := ?_)
        refine pure_y 9 (some 26) laws_eqSymS.b10_ (any_of HT_.out (by kernel_rfl)) (h := ?_)
        refine done_ (done_of HT_.out (by kernel_rfl)) ?_
        try go_wp2
        go_ret
        exact ⟨by first | rfl | (simp [errW_none, errW_some] <;> rfl) | (simp [*, errW_none, errW_some] <;> rfl), sq_below HB.out⟩
      ·
       rw [if_neg c6] at H; exact absurd H (by simp)
     ·
      rw [if_neg c5] at H; exact absurd H (by simp)
    ·
     rw [if_neg c4] at H; have c4b0 : decide (x5_1 < (l0.length : Int)) = false := decide_eq_false c4; clear c4; obtain rfl := Option.some.inj H
     go_wp2
     go_ret
     exact ⟨by first | rfl | (simp [errW_none, errW_some] <;> rfl) | (simp [*, errW_none, errW_some] <;> rfl), sq_below HB.out⟩
 ·
  rw [if_neg c3] at H; have c3b0 : ((l0.length : Int) == (l1.length : Int)) = false := beq_eq_false_iff_ne.mpr c3; have c3b1 : ((l0.length : Int) != (l1.length : Int)) = true := bne_iff_ne.mpr c3; have c3b2 : (l0.length == l1.length) = false := by first | simpa using c3 | (simp at c3 ⊢; omega)
  obtain rfl := Option.some.inj H
  go_enter Tryz.func55, Tryz.ntmps55
  go_wp2
  go_ret
  exact ⟨by first | rfl | (simp [errW_none, errW_some] <;> rfl) | (simp [*, errW_none, errW_some] <;> rfl), sq_below HB.out⟩

end Go.Proofs.YtfeloencepgdlaaGreatDoor.Q
namespace Go.Proofs.YtfeloencepgdlaaGreatDoor.Q
open Go.RowKit Go.Proofs.YtfeloencepgdlaaGreatDoorW.PrintWords Go.Proofs.YtfeloencepgdlaaGreatDoorW.PrintLast Go.Proofs.YtfeloencepgdlaaGreatDoorW.PrintMore
attribute [local go_sem] max2_int min2_int max_two min_two max_three min_three max_four min_four   -- for this text's walks alone
set_option linter.unusedVariables false
set_option linter.unusedSimpArgs false

/-! ### laws_eqSymSS: function 24 -/
abbrev laws_eqSymSS.b0_ : Array Bool := #[false, false, false, false, false, false, false, false, false, false]
abbrev laws_eqSymSS.b1_ : Array Bool := #[true, false, false, false, false, false, false, false, false, false]
abbrev laws_eqSymSS.b2_ : Array Bool := #[true, true, false, false, false, false, false, false, false, false]
abbrev laws_eqSymSS.b3_ : Array Bool := #[true, true, true, false, false, false, false, false, false, false]
abbrev laws_eqSymSS.b4_ : Array Bool := #[true, true, true, false, true, false, false, false, false, false]
abbrev laws_eqSymSS.b5_ : Array Bool := #[true, true, true, false, true, true, false, false, false, false]
abbrev laws_eqSymSS.b6_ : Array Bool := #[true, true, true, false, true, true, true, false, false, false]
abbrev laws_eqSymSS.b7_ : Array Bool := #[true, true, true, true, true, true, true, false, false, false]
abbrev laws_eqSymSS.b8_ : Array Bool := #[true, true, true, true, true, true, true, true, false, false]
abbrev laws_eqSymSS.b9_ : Array Bool := #[true, true, true, true, true, true, true, true, true, false]
abbrev laws_eqSymSS.b10_ : Array Bool := #[true, true, true, true, true, true, true, true, true, true]
def laws_eqSymSS.l0 : Nat → List (List (S59)) → List (List (S59)) → Int → Option (Bool)
 | 0, _, _, _ => none
 | k + 1, x0, x1, x5 => if x5 < (x0.length : Int) then (if 0 ≤ x5 then (if x5 < (x1.length : Int) then ((laws_eqSymS.f k (rd_L8 x0 x5) (rd_L8 x1 x5)).bind fun t401 => (if t401 = true then (laws_eqSymSS.l0 k x0 x1 (wrap64 (x5 + 1))) else (some false))) else (none)) else (none)) else (some true)
def laws_eqSymSS.f (k : Nat) (l0 : List (List (S59))) (l1 : List (List (S59))) : Option (Bool) := if (l0.length : Int) = (l1.length : Int) then (laws_eqSymSS.l0 k l0 l1 0) else (some false)
theorem laws_eqSymSS.mono_l : ∀ k, (∀ y0 y1 y2, LeO (laws_eqSymSS.l0 k y0 y1 y2) (laws_eqSymSS.l0 (k + 1) y0 y1 y2))
 | 0 => fun _ _ _ r h => by simp [laws_eqSymSS.l0] at h
 | k + 1 => by
  have ih0 := laws_eqSymSS.mono_l k
  ·
   intro y0 y1 y2; unfold laws_eqSymSS.l0
   repeat' first
   | (with_reducible exact ih0 _ _ _)
   | (with_reducible exact laws_eqSymS.mono _ _ _)
   | (with_reducible exact LeO.refl _)
   | (with_reducible exact LeO.none _)
   | (with_reducible refine LeO.ite ?_ ?_)
   | (with_reducible refine LeO.bind ?_ (fun _ => ?_))
   | exact ih0 _ _ _
   | exact laws_eqSymS.mono _ _ _
   | exact LeO.none _
   | refine LeO.ite ?_ ?_
   | refine LeO.bind ?_ (fun _ => ?_)
theorem laws_eqSymSS.mono : ∀ a0 a1 k, LeO (laws_eqSymSS.f k a0 a1) (laws_eqSymSS.f (k + 1) a0 a1) := by
 intro a0 a1 k; have ih0 := laws_eqSymSS.mono_l k; unfold laws_eqSymSS.f
 repeat' first
   | (with_reducible exact ih0 _ _ _)
   | (with_reducible exact laws_eqSymS.mono _ _ _)
   | (with_reducible exact LeO.refl _)
   | (with_reducible exact LeO.none _)
   | (with_reducible refine LeO.ite ?_ ?_)
   | (with_reducible refine LeO.bind ?_ (fun _ => ?_))
   | exact ih0 _ _ _
   | exact laws_eqSymS.mono _ _ _
   | exact LeO.none _
   | refine LeO.ite ?_ ?_
   | refine LeO.bind ?_ (fun _ => ?_)
def laws_eqSymSS.T6 : Bool × List (List Nat × List Nat) := (true, [([], []), ([], []), ([0, 1], [0, 1]), ([2], [2]), ([], []), ([], []), ([4, 5], [4, 5]), ([6], [6]), ([3, 7], [3, 7]), ([8], [8])])
def laws_eqSymSS.B6 : List Nat := [0, 0, 3, 7, 0, 0, 48, 112, 255, 511]
theorem laws_eqSymSS.tab6 : rtab .any (opsOf Tryz.f24 6) = laws_eqSymSS.T6 := by kernel_rfl
theorem laws_eqSymSS.bits6 : waitsOk laws_eqSymSS.T6.2 laws_eqSymSS.B6 = true := by kernel_rfl
set_option maxHeartbeats 8000000 in
set_option maxRecDepth 100000 in
theorem laws_eqSymSS.calls (k : Nat) (A0 : Option Addr) (c0 : Nat) (l0 : List (List (S59))) (A1 : Option Addr) (c1 : Nat) (l1 : List (List (S59))) (r : Bool) (w : World) (hr0 : Kd.C (Kd.slice 59 k59) w A0 l0.length l0) (hc0 : l0.length ≤ c0) (hr1 : Kd.C (Kd.slice 59 k59) w A1 l1.length l1) (hc1 : l1.length ≤ c1) (h : laws_eqSymSS.f k l0 l1 = some r) :
  Calls Tryz.prog 24 #[.slice A0 l0.length c0, .slice A1 l1.length c1] w fun e w' => e = .returned (.bool r) ∧ Below w.heap.size w w' := by
 have HR0 := Aside0.mk hr0; have HC0 := Aside0.mk hc0; clear hr0 hc0; have HR1 := Aside0.mk hr1; have HC1 := Aside0.mk hc1; clear hr1 hc1; have HB := Aside0.mk (Below.refl w.heap.size w); have H : (if (l0.length : Int) = (l1.length : Int) then (laws_eqSymSS.l0 k l0 l1 0) else (some false)) = some r := h; clear h
 by_cases c3 : (l0.length : Int) = (l1.length : Int)
 ·
  rw [if_pos c3] at H; have c3b0 : ((l0.length : Int) == (l1.length : Int)) = true := beq_iff_eq.mpr c3; have c3b1 : ((l0.length : Int) != (l1.length : Int)) = false := bne_eq_false_iff_eq.mpr c3; have c3b2 : (l0.length == l1.length) = true := by first | simpa using c3 | (simp at c3 ⊢; omega)
  clear c3; have H' := Aside0.mk H; clear H
  go_enter Tryz.func24, Tryz.ntmps24
  go_wp2
  go_loopg [5] k (fun kq v5 w' => ∃ (x5_1 : Int), v5 = .int .i64 x5_1 ∧ Aside0 (laws_eqSymSS.l0 kq l0 l1 x5_1 = some r) ∧ Aside0 (kq ≤ k) ∧ Aside0 (Below w.heap.size w w'))
  case atStart => exact ⟨(0), (by first | rfl | (simp; done) | (simp [*]; done)), H', ⟨Nat.le_refl _⟩, ⟨sq_below HB.out⟩⟩
  case round =>
   clear H'
   try clear c1
   try clear c2
   try clear p2
   try clear c3
   try clear c3b0
   try clear c3b1
   try clear c3b2
   obtain ⟨x5_1, rfl, HA, HK1, HB⟩ := hrel; cases gk with
   | zero => exact absurd HA.out (by simp [laws_eqSymSS.l0])
   | succ k1 =>
    have H := HA.out; clear HA; simp only [laws_eqSymSS.l0] at H
    by_cases c4 : x5_1 < (l0.length : Int)
    ·
     rw [if_pos c4] at H; have c4b0 : decide (x5_1 < (l0.length : Int)) = true := decide_eq_true c4; clear c4
     by_cases c5 : 0 ≤ x5_1
     ·
      rw [if_pos c5] at H; have c5b0 : decide (0 ≤ x5_1) = true := decide_eq_true c5; clear c5
      by_cases c6 : x5_1 < (l1.length : Int)
      ·
       rw [if_pos c6] at H; have c6b0 : decide (x5_1 < (l1.length : Int)) = true := decide_eq_true c6; clear c6; replace H := Option.bind_eq_some_iff.mp H; obtain ⟨t401, A70, H⟩ := H; (try dsimp only at H); have A7 := Aside0.mk A70; clear A70
       by_cases c8 : t401 = true
       ·
        subst c8; have H1 := ifp_ H
        clear H; have H := H1; clear H1; have H' := Aside0.mk H; clear H
        try go_wp2
        replace HB := hd_ HB; have p399 : 0 ≤ (x5_1 : Int) := sq_dec; have q399 : x5_1 < (l0.length : Int) := sq_dec; obtain ⟨ad399, A399_0, c399_0, e399, hx399_0, hl399_0, hi399_0⟩ := at_L8 HR0.out x5_1 p399 q399; have hw399_0 := hx399_0; cases e399; replace hx399_0 := (HB.out.cell (World.block_lt_of_cell? w _ hx399_0)).trans hx399_0; have HR399_0 := Aside0.mk hi399_0; have HC399_0 := Aside0.mk hl399_0; clear hi399_0 hl399_0; replace p399 := eq_true p399; replace q399 := eq_true q399; have p400 : 0 ≤ (x5_1 : Int) := sq_dec; have q400 : x5_1 < (l1.length : Int) := sq_dec; obtain ⟨ad400, A400_0, c400_0, e400, hx400_0, hl400_0, hi400_0⟩ := at_L8 HR1.out x5_1 p400 q400; have hw400_0 := hx400_0; cases e400; replace hx400_0 := (HB.out.cell (World.block_lt_of_cell? w _ hx400_0)).trans hx400_0; have HR400_0 := Aside0.mk hi400_0; have HC400_0 := Aside0.mk hl400_0; clear hi400_0 hl400_0; replace p400 := eq_true p400; replace q400 := eq_true q400; refine start_ (n := 10) (S := fun w' => w'.cell? (ad399.add (x5_1).toNat) = some (.slice A399_0 (rd_L8 l0 x5_1).length c399_0) ∧ w'.cell? (ad400.add (x5_1).toNat) = some (.slice A400_0 (rd_L8 l1 x5_1).length c400_0)) (ds := []) laws_eqSymSS.b0_ (by kernel_rfl) rfl rfl ⟨((HB.out.cell (World.block_lt_of_cell? w _ hw399_0)).trans hw399_0), ((HB.out.cell (World.block_lt_of_cell? w _ hw400_0)).trans hw400_0)⟩ (fun hHeld => ?_); refine with_tabW laws_eqSymSS.tab6 laws_eqSymSS.bits6 (fun HT_ HW_ => ?_); generalize wr.drew = w9 at HB HR399_0 HR400_0 hx399_0 hx400_0 hHeld ⊢; refine pure_y 0 (some 17) laws_eqSymSS.b1_ (any_of HT_.out (by kernel_rfl)) (h := ?_)
        refine pure_y 1 (some 18) laws_eqSymSS.b2_ (any_of HT_.out (by kernel_rfl)) (h := ?_)
        refine pure_y 2 (some 19) laws_eqSymSS.b3_ (any_of HT_.out (by kernel_rfl)) (h := ?_)
        refine pure_y 4 (some 21) laws_eqSymSS.b4_ (any_of HT_.out (by kernel_rfl)) (h := ?_)
        refine pure_y 5 (some 22) laws_eqSymSS.b5_ (any_of HT_.out (by kernel_rfl)) (h := ?_)
        refine pure_y 6 (some 23) laws_eqSymSS.b6_ (any_of HT_.out (by kernel_rfl)) (h := ?_)
        refine take_y 3 (some 20) laws_eqSymSS.b7_ rfl (take_ofW HT_.out HW_.out (by kernel_rfl)) hHeld (Or.inl ⟨by rfl, (by rintro w' ⟨s0, s1⟩; go_simp; with_reducible rfl)⟩) (h := ?_)
        refine take_y 7 (some 24) laws_eqSymSS.b8_ rfl (take_ofW HT_.out HW_.out (by kernel_rfl)) hHeld (Or.inl ⟨by rfl, (by rintro w' ⟨s0, s1⟩; go_simp; with_reducible rfl)⟩) (h := ?_)
        refine one_ (i := 8) (N := some 25) laws_eqSymSS.b9_ rfl rfl (one_of HT_.out (by kernel_rfl)) (by decide) (fun K hK => ?_); refine gs_ Tryz.func55 #[.slice A399_0 (rd_L8 l0 x5_1).length c399_0, .slice A400_0 (rd_L8 l1 x5_1).length c400_0] (h := ?_); with_reducible refine (laws_eqSymS.calls k1 _ _ (rd_L8 l0 x5_1) _ _ (rd_L8 l1 x5_1) true _ ?side1 ?side2 ?side3 ?side4 A7.out).mono ?_
        (case side1 => exact sq_c (Kd.C_below HR399_0.out HB.out))
        (case side2 => exact HC399_0.out)
        (case side3 => exact sq_c (Kd.C_below HR400_0.out HB.out))
        (case side4 => exact HC400_0.out)
        rintro e w10 ⟨rfl, hb⟩; refine ⟨_, rfl, ?_⟩; replace HB := hb_ HB hb
        (try clear hb)
        (try clear hb2)
        (try clear hk)
        (try clear hi)
        refine hK.out _ _ ⟨((HB.out.cell (World.block_lt_of_cell? w _ hw399_0)).trans hw399_0), ((HB.out.cell (World.block_lt_of_cell? w _ hw400_0)).trans hw400_0)⟩ (fun hHeld => ?_); clear hK K; refine norm_y 25 (h := ?_)
        refine pure_y 9 (some 26) laws_eqSymSS.b10_ (any_of HT_.out (by kernel_rfl)) (h := ?_)
        refine done_ (done_of HT_.out (by kernel_rfl)) ?_
        try go_wp2
        go_roundg k1
        case measure => have := HK1.out; omega
        case rel => exact ⟨(wrap64 (x5_1 + 1)), (by first | rfl | (simp; done) | (simp [*]; done)), H', ⟨by have := HK1.out; omega⟩, ⟨sq_below HB.out⟩⟩
       ·
        replace c8 := Bool.eq_false_iff.mpr c8; subst c8; have H1 := ifn_ H
        clear H; have H := H1; clear H1; obtain rfl := Option.some.inj H
        try go_wp2
        replace HB := hd_ HB; have p399 : 0 ≤ (x5_1 : Int) := sq_dec; have q399 : x5_1 < (l0.length : Int) := sq_dec; obtain ⟨ad399, A399_0, c399_0, e399, hx399_0, hl399_0, hi399_0⟩ := at_L8 HR0.out x5_1 p399 q399; have hw399_0 := hx399_0; cases e399; replace hx399_0 := (HB.out.cell (World.block_lt_of_cell? w _ hx399_0)).trans hx399_0; have HR399_0 := Aside0.mk hi399_0; have HC399_0 := Aside0.mk hl399_0; clear hi399_0 hl399_0; replace p399 := eq_true p399; replace q399 := eq_true q399; have p400 : 0 ≤ (x5_1 : Int) := sq_dec; have q400 : x5_1 < (l1.length : Int) := sq_dec; obtain ⟨ad400, A400_0, c400_0, e400, hx400_0, hl400_0, hi400_0⟩ := at_L8 HR1.out x5_1 p400 q400; have hw400_0 := hx400_0; cases e400; replace hx400_0 := (HB.out.cell (World.block_lt_of_cell? w _ hx400_0)).trans hx400_0; have HR400_0 := Aside0.mk hi400_0; have HC400_0 := Aside0.mk hl400_0; clear hi400_0 hl400_0; replace p400 := eq_true p400; replace q400 := eq_true q400; refine start_ (n := 10) (S := fun w' => w'.cell? (ad399.add (x5_1).toNat) = some (.slice A399_0 (rd_L8 l0 x5_1).length c399_0) ∧ w'.cell? (ad400.add (x5_1).toNat) = some (.slice A400_0 (rd_L8 l1 x5_1).length c400_0)) (ds := []) laws_eqSymSS.b0_ (by kernel_rfl) rfl rfl ⟨((HB.out.cell (World.block_lt_of_cell? w _ hw399_0)).trans hw399_0), ((HB.out.cell (World.block_lt_of_cell? w _ hw400_0)).trans hw400_0)⟩ (fun hHeld => ?_); refine with_tabW laws_eqSymSS.tab6 laws_eqSymSS.bits6 (fun HT_ HW_ => ?_); generalize wr.drew = w11 at HB HR399_0 HR400_0 hx399_0 hx400_0 hHeld ⊢; refine pure_y 0 (some 17) laws_eqSymSS.b1_ (any_of HT_.out (by kernel_rfl)) (h := ?_)
        refine pure_y 1 (some 18) laws_eqSymSS.b2_ (any_of HT_.out (by kernel_rfl)) (h := ?_)
        refine pure_y 2 (some 19) laws_eqSymSS.b3_ (any_of HT_.out (by kernel_rfl)) (h := ?_)
        refine pure_y 4 (some 21) laws_eqSymSS.b4_ (any_of HT_.out (by kernel_rfl)) (h := ?_)
        refine pure_y 5 (some 22) laws_eqSymSS.b5_ (any_of HT_.out (by kernel_rfl)) (h := ?_)
        refine pure_y 6 (some 23) laws_eqSymSS.b6_ (any_of HT_.out (by kernel_rfl)) (h := ?_)
        refine take_y 3 (some 20) laws_eqSymSS.b7_ rfl (take_ofW HT_.out HW_.out (by kernel_rfl)) hHeld (Or.inl ⟨by rfl, (by rintro w' ⟨s0, s1⟩; go_simp; with_reducible rfl)⟩) (h := ?_)
        refine take_y 7 (some 24) laws_eqSymSS.b8_ rfl (take_ofW HT_.out HW_.out (by kernel_rfl)) hHeld (Or.inl ⟨by rfl, (by rintro w' ⟨s0, s1⟩; go_simp; with_reducible rfl)⟩) (h := ?_)
        refine one_ (i := 8) (N := some 25) laws_eqSymSS.b9_ rfl rfl (one_of HT_.out (by kernel_rfl)) (by decide) (fun K hK => ?_); refine gs_ Tryz.func55 #[.slice A399_0 (rd_L8 l0 x5_1).length c399_0, .slice A400_0 (rd_L8 l1 x5_1).length c400_0] (h := ?_); with_reducible refine (laws_eqSymS.calls k1 _ _ (rd_L8 l0 x5_1) _ _ (rd_L8 l1 x5_1) false _ ?side1 ?side2 ?side3 ?side4 A7.out).mono ?_
        (case side1 => exact sq_c (Kd.C_below HR399_0.out HB.out))
        (case side2 => exact HC399_0.out)
        (case side3 => exact sq_c (Kd.C_below HR400_0.out HB.out))
        (case side4 => exact HC400_0.out)
        rintro e w12 ⟨rfl, hb⟩; refine ⟨_, rfl, ?_⟩; replace HB := hb_ HB hb
        (try clear hb)
        (try clear hb2)
        (try clear hk)
        (try clear hi)
        refine hK.out _ _ ⟨((HB.out.cell (World.block_lt_of_cell? w _ hw399_0)).trans hw399_0), ((HB.out.cell (World.block_lt_of_cell? w _ hw400_0)).trans hw400_0)⟩ (fun hHeld => ?_); clear hK K; refine norm_y 25 (h := ?_)
        refine pure_y 9 (some 26) laws_eqSymSS.b10_ (any_of HT_.out (by kernel_rfl)) (h := ?_)
        refine done_ (done_of HT_.out (by kernel_rfl)) ?_
        try go_wp2
        go_ret
        exact ⟨by first | rfl | (simp [errW_none, errW_some] <;> rfl) | (simp [*, errW_none, errW_some] <;> rfl), sq_below HB.out⟩
      ·
       rw [if_neg c6] at H; exact absurd H (by simp)
     ·
      rw [if_neg c5] at H; exact absurd H (by simp)
    ·
     rw [if_neg c4] at H; have c4b0 : decide (x5_1 < (l0.length : Int)) = false := decide_eq_false c4; clear c4; obtain rfl := Option.some.inj H
     go_wp2
     go_ret
     exact ⟨by first | rfl | (simp [errW_none, errW_some] <;> rfl) | (simp [*, errW_none, errW_some] <;> rfl), sq_below HB.out⟩
 ·
  rw [if_neg c3] at H; have c3b0 : ((l0.length : Int) == (l1.length : Int)) = false := beq_eq_false_iff_ne.mpr c3; have c3b1 : ((l0.length : Int) != (l1.length : Int)) = true := bne_iff_ne.mpr c3; have c3b2 : (l0.length == l1.length) = false := by first | simpa using c3 | (simp at c3 ⊢; omega)
  obtain rfl := Option.some.inj H
  go_enter Tryz.func24, Tryz.ntmps24
  go_wp2
  go_ret
  exact ⟨by first | rfl | (simp [errW_none, errW_some] <;> rfl) | (simp [*, errW_none, errW_some] <;> rfl), sq_below HB.out⟩

end Go.Proofs.YtfeloencepgdlaaGreatDoor.Q
namespace Go.Proofs.YtfeloencepgdlaaGreatDoor.Q
open Go.RowKit Go.Proofs.YtfeloencepgdlaaGreatDoorW.PrintWords Go.Proofs.YtfeloencepgdlaaGreatDoorW.PrintLast Go.Proofs.YtfeloencepgdlaaGreatDoorW.PrintMore
attribute [local go_sem] max2_int min2_int max_two min_two max_three min_three max_four min_four   -- for this text's walks alone
set_option linter.unusedVariables false
set_option linter.unusedSimpArgs false

/-! ### laws_eqRange: function 84 -/
def laws_eqRange.f (a0_0 : Int) (a0_1 : Int) (a1_0 : Int) (a1_1 : Int) : Option (Bool) := if a0_0 = a1_0 then (if a0_1 = a1_1 then (some true) else (some false)) else (some false)
set_option maxHeartbeats 8000000 in
set_option maxRecDepth 100000 in
theorem laws_eqRange.calls (a0_0 : Int) (a0_1 : Int) (a1_0 : Int) (a1_1 : Int) (r : Bool) (w : World) (h : laws_eqRange.f a0_0 a0_1 a1_0 a1_1 = some r) :
  Calls Tryz.prog 84 #[.agg #[.int .i64 a0_0, .int .i64 a0_1], .agg #[.int .i64 a1_0, .int .i64 a1_1]] w fun e w' => e = .returned (.bool r) ∧ Below w.heap.size w w' := by
 have hu64 := Tryz.underlying64; have HB := Aside0.mk (Below.refl w.heap.size w); have H : (if a0_0 = a1_0 then (if a0_1 = a1_1 then (some true) else (some false)) else (some false)) = some r := h; clear h
 by_cases c3 : a0_0 = a1_0
 ·
  rw [if_pos c3] at H; have c3b0 : (a0_0 == a1_0) = true := beq_iff_eq.mpr c3; have c3b1 : (a0_0 != a1_0) = false := bne_eq_false_iff_eq.mpr c3; clear c3
  by_cases c4 : a0_1 = a1_1
  ·
   rw [if_pos c4] at H; have c4b0 : (a0_1 == a1_1) = true := beq_iff_eq.mpr c4; have c4b1 : (a0_1 != a1_1) = false := bne_eq_false_iff_eq.mpr c4; clear c4; obtain rfl := Option.some.inj H
   go_enter Tryz.func84, Tryz.ntmps84
   go_wp2_with (first | ((with_reducible refine gate_dst (N := 2) rfl ?_); refine box_y 2 #[.int .i64 a0_0, .int .i64 a0_1] 64 (h := ?_); intro gb402 hg w5 hbox hb; have n0_ := Aside0.mk (below_step (sq_below HB.out) hb); have n1_ := Aside0.mk (hbox); have n2_ := ge_ hg (below_size (sq_below HB.out)); have n3_ := ge_ hg (below_size (sq_below HB.out)); clear HB; have HB := n0_; have BK402 := n1_; have GW402 := n2_; have GE402 := n3_; clear n0_ n1_ n2_ n3_; clear hb hbox hg) | ((with_reducible refine gate_dst (N := 3) rfl ?_); refine box_y 3 #[.int .i64 a1_0, .int .i64 a1_1] 64 (h := ?_); intro gb403 hg w6 hbox hb; have n0_ := Aside0.mk (blk_below (sq_blk BK402.out) hb); have n1_ := Aside0.mk (below_step (sq_below1 HB.out GE402.out) hb); have n2_ := Aside0.mk (hbox); have n3_ := ge_ hg (below_size (sq_below1 HB.out GE402.out)); have n4_ := ge_ hg (below_size (sq_below1 HB.out GE402.out)); have n5_ := nb_ hg BK402; have n6_ := Aside0.mk (Ne.symm n5_.out); clear BK402; clear HB; have BK402 := n0_; have HB := n1_; have BK403 := n2_; have GW403 := n3_; have GE403 := n4_; have NB402_403 := n5_; have NB403_402 := n6_; clear n0_ n1_ n2_ n3_ n4_ n5_ n6_; clear hb hbox hg; have hnb7 := NB402_403.out; have hnc7 := NB403_402.out; have hcz8_0 := cl_ (v := .int .i64 a0_0) BK402 0; have hcz8_1 := cl_ (v := .int .i64 a0_1) BK402 1; have hfz8_0 := blk_frozen BK402.out 0; have hfz8_1 := blk_frozen BK402.out 1; have hcz9_0 := cl_ (v := .int .i64 a1_0) BK403 0; have hcz9_1 := cl_ (v := .int .i64 a1_1) BK403 1; have hfz9_0 := blk_frozen BK403.out 0; have hfz9_1 := blk_frozen BK403.out 1))
   go_ret
   exact ⟨by first | rfl | (simp [errW_none, errW_some] <;> rfl) | (simp [*, errW_none, errW_some] <;> rfl), sq_below1 HB.out GE403.out⟩
  ·
   rw [if_neg c4] at H; have c4b0 : (a0_1 == a1_1) = false := beq_eq_false_iff_ne.mpr c4; have c4b1 : (a0_1 != a1_1) = true := bne_iff_ne.mpr c4; obtain rfl := Option.some.inj H
   go_enter Tryz.func84, Tryz.ntmps84
   go_wp2_with (first | ((with_reducible refine gate_dst (N := 2) rfl ?_); refine box_y 2 #[.int .i64 a0_0, .int .i64 a0_1] 64 (h := ?_); intro gb402 hg w10 hbox hb; have n0_ := Aside0.mk (below_step (sq_below HB.out) hb); have n1_ := Aside0.mk (hbox); have n2_ := ge_ hg (below_size (sq_below HB.out)); have n3_ := ge_ hg (below_size (sq_below HB.out)); clear HB; have HB := n0_; have BK402 := n1_; have GW402 := n2_; have GE402 := n3_; clear n0_ n1_ n2_ n3_; clear hb hbox hg) | ((with_reducible refine gate_dst (N := 3) rfl ?_); refine box_y 3 #[.int .i64 a1_0, .int .i64 a1_1] 64 (h := ?_); intro gb403 hg w11 hbox hb; have n0_ := Aside0.mk (blk_below (sq_blk BK402.out) hb); have n1_ := Aside0.mk (below_step (sq_below1 HB.out GE402.out) hb); have n2_ := Aside0.mk (hbox); have n3_ := ge_ hg (below_size (sq_below1 HB.out GE402.out)); have n4_ := ge_ hg (below_size (sq_below1 HB.out GE402.out)); have n5_ := nb_ hg BK402; have n6_ := Aside0.mk (Ne.symm n5_.out); clear BK402; clear HB; have BK402 := n0_; have HB := n1_; have BK403 := n2_; have GW403 := n3_; have GE403 := n4_; have NB402_403 := n5_; have NB403_402 := n6_; clear n0_ n1_ n2_ n3_ n4_ n5_ n6_; clear hb hbox hg; have hnb12 := NB402_403.out; have hnc12 := NB403_402.out; have hcz13_0 := cl_ (v := .int .i64 a0_0) BK402 0; have hcz13_1 := cl_ (v := .int .i64 a0_1) BK402 1; have hfz13_0 := blk_frozen BK402.out 0; have hfz13_1 := blk_frozen BK402.out 1; have hcz14_0 := cl_ (v := .int .i64 a1_0) BK403 0; have hcz14_1 := cl_ (v := .int .i64 a1_1) BK403 1; have hfz14_0 := blk_frozen BK403.out 0; have hfz14_1 := blk_frozen BK403.out 1))
   go_ret
   exact ⟨by first | rfl | (simp [errW_none, errW_some] <;> rfl) | (simp [*, errW_none, errW_some] <;> rfl), sq_below1 HB.out GE403.out⟩
 ·
  rw [if_neg c3] at H; have c3b0 : (a0_0 == a1_0) = false := beq_eq_false_iff_ne.mpr c3; have c3b1 : (a0_0 != a1_0) = true := bne_iff_ne.mpr c3; obtain rfl := Option.some.inj H
  go_enter Tryz.func84, Tryz.ntmps84
  go_wp2_with (first | ((with_reducible refine gate_dst (N := 2) rfl ?_); refine box_y 2 #[.int .i64 a0_0, .int .i64 a0_1] 64 (h := ?_); intro gb402 hg w15 hbox hb; have n0_ := Aside0.mk (below_step (sq_below HB.out) hb); have n1_ := Aside0.mk (hbox); have n2_ := ge_ hg (below_size (sq_below HB.out)); have n3_ := ge_ hg (below_size (sq_below HB.out)); clear HB; have HB := n0_; have BK402 := n1_; have GW402 := n2_; have GE402 := n3_; clear n0_ n1_ n2_ n3_; clear hb hbox hg) | ((with_reducible refine gate_dst (N := 3) rfl ?_); refine box_y 3 #[.int .i64 a1_0, .int .i64 a1_1] 64 (h := ?_); intro gb403 hg w16 hbox hb; have n0_ := Aside0.mk (blk_below (sq_blk BK402.out) hb); have n1_ := Aside0.mk (below_step (sq_below1 HB.out GE402.out) hb); have n2_ := Aside0.mk (hbox); have n3_ := ge_ hg (below_size (sq_below1 HB.out GE402.out)); have n4_ := ge_ hg (below_size (sq_below1 HB.out GE402.out)); have n5_ := nb_ hg BK402; have n6_ := Aside0.mk (Ne.symm n5_.out); clear BK402; clear HB; have BK402 := n0_; have HB := n1_; have BK403 := n2_; have GW403 := n3_; have GE403 := n4_; have NB402_403 := n5_; have NB403_402 := n6_; clear n0_ n1_ n2_ n3_ n4_ n5_ n6_; clear hb hbox hg; have hnb17 := NB402_403.out; have hnc17 := NB403_402.out; have hcz18_0 := cl_ (v := .int .i64 a0_0) BK402 0; have hcz18_1 := cl_ (v := .int .i64 a0_1) BK402 1; have hfz18_0 := blk_frozen BK402.out 0; have hfz18_1 := blk_frozen BK402.out 1; have hcz19_0 := cl_ (v := .int .i64 a1_0) BK403 0; have hcz19_1 := cl_ (v := .int .i64 a1_1) BK403 1; have hfz19_0 := blk_frozen BK403.out 0; have hfz19_1 := blk_frozen BK403.out 1))
  go_ret
  exact ⟨by first | rfl | (simp [errW_none, errW_some] <;> rfl) | (simp [*, errW_none, errW_some] <;> rfl), sq_below1 HB.out GE403.out⟩

/-! ### laws_eqVal: function 56 -/
def laws_eqVal.f (a0_0 : Int) (a0_1 : Int) (a0_2 : Bool) (a1_0 : Int) (a1_1 : Int) (a1_2 : Bool) : Option (Bool) := (laws_eqRange.f a0_0 a0_1 a1_0 a1_1).bind fun t406 => (if t406 = true then (if (a0_2 != a1_2) = true then (some false) else (some true)) else (some false))
set_option maxHeartbeats 8000000 in
set_option maxRecDepth 100000 in
theorem laws_eqVal.calls (a0_0 : Int) (a0_1 : Int) (a0_2 : Bool) (a1_0 : Int) (a1_1 : Int) (a1_2 : Bool) (r : Bool) (w : World) (h : laws_eqVal.f a0_0 a0_1 a0_2 a1_0 a1_1 a1_2 = some r) :
  Calls Tryz.prog 56 #[.agg #[.int .i64 a0_0, .int .i64 a0_1, .bool a0_2], .agg #[.int .i64 a1_0, .int .i64 a1_1, .bool a1_2]] w fun e w' => e = .returned (.bool r) ∧ Below w.heap.size w w' := by
 have hu66 := Tryz.underlying66; have hu64 := Tryz.underlying64; have HB := Aside0.mk (Below.refl w.heap.size w); have H : ((laws_eqRange.f a0_0 a0_1 a1_0 a1_1).bind fun t406 => (if t406 = true then (if (a0_2 != a1_2) = true then (some false) else (some true)) else (some false))) = some r := h; clear h; replace H := Option.bind_eq_some_iff.mp H; obtain ⟨t406, A30, H⟩ := H; (try dsimp only at H); have A3 := Aside0.mk A30; clear A30
 by_cases c4 : t406 = true
 ·
  subst c4; have H1 := ifp_ H
  clear H; have H := H1; clear H1
  by_cases c5 : (a0_2 != a1_2) = true
  ·
   rw [if_pos c5] at H; have c5b0 : (a0_2 != a1_2) = true := c5
   (try (have c5b1 : decide (a0_2 = a1_2) = false := by simpa using c5))
   (try (have c5b2 : (a0_2 == a1_2) = false := by simpa using c5))
   (try (have c5b3 : ¬ (a0_2 = a1_2) := by simpa using c5))
   clear c5; obtain rfl := Option.some.inj H
   go_enter Tryz.func56, Tryz.ntmps56
   go_wp2_with (first | ((with_reducible refine gate_dst (N := 2) rfl ?_); refine box_y 2 #[.int .i64 a0_0, .int .i64 a0_1, .bool a0_2] 66 (h := ?_); intro gb404 hg w6 hbox hb; have n0_ := Aside0.mk (below_step (sq_below HB.out) hb); have n1_ := Aside0.mk (hbox); have n2_ := ge_ hg (below_size (sq_below HB.out)); have n3_ := ge_ hg (below_size (sq_below HB.out)); clear HB; have HB := n0_; have BK404 := n1_; have GW404 := n2_; have GE404 := n3_; clear n0_ n1_ n2_ n3_; clear hb hbox hg) | ((with_reducible refine gate_dst (N := 3) rfl ?_); refine box_y 3 #[.int .i64 a1_0, .int .i64 a1_1, .bool a1_2] 66 (h := ?_); intro gb405 hg w7 hbox hb; have n0_ := Aside0.mk (blk_below (sq_blk BK404.out) hb); have n1_ := Aside0.mk (below_step (sq_below1 HB.out GE404.out) hb); have n2_ := Aside0.mk (hbox); have n3_ := ge_ hg (below_size (sq_below1 HB.out GE404.out)); have n4_ := ge_ hg (below_size (sq_below1 HB.out GE404.out)); have n5_ := nb_ hg BK404; have n6_ := Aside0.mk (Ne.symm n5_.out); clear BK404; clear HB; have BK404 := n0_; have HB := n1_; have BK405 := n2_; have GW405 := n3_; have GE405 := n4_; have NB404_405 := n5_; have NB405_404 := n6_; clear n0_ n1_ n2_ n3_ n4_ n5_ n6_; clear hb hbox hg; have hnb8 := NB404_405.out; have hnc8 := NB405_404.out; have hcz9_0 := cl_ (v := .int .i64 a0_0) BK404 0; have hcz9_1 := cl_ (v := .int .i64 a0_1) BK404 1; have hcz9_2 := cl_ (v := .bool a0_2) BK404 2; have hfz9_0 := blk_frozen BK404.out 0; have hfz9_1 := blk_frozen BK404.out 1; have hfz9_2 := blk_frozen BK404.out 2; have hcz10_0 := cl_ (v := .int .i64 a1_0) BK405 0; have hcz10_1 := cl_ (v := .int .i64 a1_1) BK405 1; have hcz10_2 := cl_ (v := .bool a1_2) BK405 2; have hfz10_0 := blk_frozen BK405.out 0; have hfz10_1 := blk_frozen BK405.out 1; have hfz10_2 := blk_frozen BK405.out 2) | ((with_reducible refine gate_callee (f := 84) rfl ?_); refine gl_ 9 Tryz.func84 #[.agg #[.int .i64 a0_0, .int .i64 a0_1], .agg #[.int .i64 a1_0, .int .i64 a1_1]] (h := ?_); (with_reducible refine (laws_eqRange.calls a0_0 a0_1 a1_0 a1_1 true _ A3.out).mono ?_); rintro e w11 ⟨rfl, hb⟩; refine ⟨_, rfl, ?_⟩; replace BK404 := bb_ BK404 hb; replace BK405 := bb_ BK405 hb; replace HB := hb2_ HB hb GE404 GE405; (try clear hb); have hcz12_0 := cl_ (v := .int .i64 a0_0) BK404 0; have hcz12_1 := cl_ (v := .int .i64 a0_1) BK404 1; have hcz12_2 := cl_ (v := .bool a0_2) BK404 2; have hfz12_0 := blk_frozen BK404.out 0; have hfz12_1 := blk_frozen BK404.out 1; have hfz12_2 := blk_frozen BK404.out 2; have hcz13_0 := cl_ (v := .int .i64 a1_0) BK405 0; have hcz13_1 := cl_ (v := .int .i64 a1_1) BK405 1; have hcz13_2 := cl_ (v := .bool a1_2) BK405 2; have hfz13_0 := blk_frozen BK405.out 0; have hfz13_1 := blk_frozen BK405.out 1; have hfz13_2 := blk_frozen BK405.out 2))
   go_ret
   exact ⟨by first | rfl | (simp [errW_none, errW_some] <;> rfl) | (simp [*, errW_none, errW_some] <;> rfl), sq_below1 HB.out GE405.out⟩
  ·
   rw [if_neg c5] at H; have c5b0 : (a0_2 != a1_2) = false := by simpa using c5
   (try (have c5b1 : decide (a0_2 = a1_2) = true := by simpa using c5))
   (try (have c5b2 : (a0_2 == a1_2) = true := by simpa using c5))
   clear c5; obtain rfl := Option.some.inj H
   go_enter Tryz.func56, Tryz.ntmps56
   go_wp2_with (first | ((with_reducible refine gate_dst (N := 2) rfl ?_); refine box_y 2 #[.int .i64 a0_0, .int .i64 a0_1, .bool a0_2] 66 (h := ?_); intro gb404 hg w14 hbox hb; have n0_ := Aside0.mk (below_step (sq_below HB.out) hb); have n1_ := Aside0.mk (hbox); have n2_ := ge_ hg (below_size (sq_below HB.out)); have n3_ := ge_ hg (below_size (sq_below HB.out)); clear HB; have HB := n0_; have BK404 := n1_; have GW404 := n2_; have GE404 := n3_; clear n0_ n1_ n2_ n3_; clear hb hbox hg) | ((with_reducible refine gate_dst (N := 3) rfl ?_); refine box_y 3 #[.int .i64 a1_0, .int .i64 a1_1, .bool a1_2] 66 (h := ?_); intro gb405 hg w15 hbox hb; have n0_ := Aside0.mk (blk_below (sq_blk BK404.out) hb); have n1_ := Aside0.mk (below_step (sq_below1 HB.out GE404.out) hb); have n2_ := Aside0.mk (hbox); have n3_ := ge_ hg (below_size (sq_below1 HB.out GE404.out)); have n4_ := ge_ hg (below_size (sq_below1 HB.out GE404.out)); have n5_ := nb_ hg BK404; have n6_ := Aside0.mk (Ne.symm n5_.out); clear BK404; clear HB; have BK404 := n0_; have HB := n1_; have BK405 := n2_; have GW405 := n3_; have GE405 := n4_; have NB404_405 := n5_; have NB405_404 := n6_; clear n0_ n1_ n2_ n3_ n4_ n5_ n6_; clear hb hbox hg; have hnb16 := NB404_405.out; have hnc16 := NB405_404.out; have hcz17_0 := cl_ (v := .int .i64 a0_0) BK404 0; have hcz17_1 := cl_ (v := .int .i64 a0_1) BK404 1; have hcz17_2 := cl_ (v := .bool a0_2) BK404 2; have hfz17_0 := blk_frozen BK404.out 0; have hfz17_1 := blk_frozen BK404.out 1; have hfz17_2 := blk_frozen BK404.out 2; have hcz18_0 := cl_ (v := .int .i64 a1_0) BK405 0; have hcz18_1 := cl_ (v := .int .i64 a1_1) BK405 1; have hcz18_2 := cl_ (v := .bool a1_2) BK405 2; have hfz18_0 := blk_frozen BK405.out 0; have hfz18_1 := blk_frozen BK405.out 1; have hfz18_2 := blk_frozen BK405.out 2) | ((with_reducible refine gate_callee (f := 84) rfl ?_); refine gl_ 9 Tryz.func84 #[.agg #[.int .i64 a0_0, .int .i64 a0_1], .agg #[.int .i64 a1_0, .int .i64 a1_1]] (h := ?_); (with_reducible refine (laws_eqRange.calls a0_0 a0_1 a1_0 a1_1 true _ A3.out).mono ?_); rintro e w19 ⟨rfl, hb⟩; refine ⟨_, rfl, ?_⟩; replace BK404 := bb_ BK404 hb; replace BK405 := bb_ BK405 hb; replace HB := hb2_ HB hb GE404 GE405; (try clear hb); have hcz20_0 := cl_ (v := .int .i64 a0_0) BK404 0; have hcz20_1 := cl_ (v := .int .i64 a0_1) BK404 1; have hcz20_2 := cl_ (v := .bool a0_2) BK404 2; have hfz20_0 := blk_frozen BK404.out 0; have hfz20_1 := blk_frozen BK404.out 1; have hfz20_2 := blk_frozen BK404.out 2; have hcz21_0 := cl_ (v := .int .i64 a1_0) BK405 0; have hcz21_1 := cl_ (v := .int .i64 a1_1) BK405 1; have hcz21_2 := cl_ (v := .bool a1_2) BK405 2; have hfz21_0 := blk_frozen BK405.out 0; have hfz21_1 := blk_frozen BK405.out 1; have hfz21_2 := blk_frozen BK405.out 2))
   go_ret
   exact ⟨by first | rfl | (simp [errW_none, errW_some] <;> rfl) | (simp [*, errW_none, errW_some] <;> rfl), sq_below1 HB.out GE405.out⟩
 ·
  replace c4 := Bool.eq_false_iff.mpr c4; subst c4; have H1 := ifn_ H
  clear H; have H := H1; clear H1; obtain rfl := Option.some.inj H
  go_enter Tryz.func56, Tryz.ntmps56
  go_wp2_with (first | ((with_reducible refine gate_dst (N := 2) rfl ?_); refine box_y 2 #[.int .i64 a0_0, .int .i64 a0_1, .bool a0_2] 66 (h := ?_); intro gb404 hg w22 hbox hb; have n0_ := Aside0.mk (below_step (sq_below HB.out) hb); have n1_ := Aside0.mk (hbox); have n2_ := ge_ hg (below_size (sq_below HB.out)); have n3_ := ge_ hg (below_size (sq_below HB.out)); clear HB; have HB := n0_; have BK404 := n1_; have GW404 := n2_; have GE404 := n3_; clear n0_ n1_ n2_ n3_; clear hb hbox hg) | ((with_reducible refine gate_dst (N := 3) rfl ?_); refine box_y 3 #[.int .i64 a1_0, .int .i64 a1_1, .bool a1_2] 66 (h := ?_); intro gb405 hg w23 hbox hb; have n0_ := Aside0.mk (blk_below (sq_blk BK404.out) hb); have n1_ := Aside0.mk (below_step (sq_below1 HB.out GE404.out) hb); have n2_ := Aside0.mk (hbox); have n3_ := ge_ hg (below_size (sq_below1 HB.out GE404.out)); have n4_ := ge_ hg (below_size (sq_below1 HB.out GE404.out)); have n5_ := nb_ hg BK404; have n6_ := Aside0.mk (Ne.symm n5_.out); clear BK404; clear HB; have BK404 := n0_; have HB := n1_; have BK405 := n2_; have GW405 := n3_; have GE405 := n4_; have NB404_405 := n5_; have NB405_404 := n6_; clear n0_ n1_ n2_ n3_ n4_ n5_ n6_; clear hb hbox hg; have hnb24 := NB404_405.out; have hnc24 := NB405_404.out; have hcz25_0 := cl_ (v := .int .i64 a0_0) BK404 0; have hcz25_1 := cl_ (v := .int .i64 a0_1) BK404 1; have hcz25_2 := cl_ (v := .bool a0_2) BK404 2; have hfz25_0 := blk_frozen BK404.out 0; have hfz25_1 := blk_frozen BK404.out 1; have hfz25_2 := blk_frozen BK404.out 2; have hcz26_0 := cl_ (v := .int .i64 a1_0) BK405 0; have hcz26_1 := cl_ (v := .int .i64 a1_1) BK405 1; have hcz26_2 := cl_ (v := .bool a1_2) BK405 2; have hfz26_0 := blk_frozen BK405.out 0; have hfz26_1 := blk_frozen BK405.out 1; have hfz26_2 := blk_frozen BK405.out 2) | ((with_reducible refine gate_callee (f := 84) rfl ?_); refine gl_ 9 Tryz.func84 #[.agg #[.int .i64 a0_0, .int .i64 a0_1], .agg #[.int .i64 a1_0, .int .i64 a1_1]] (h := ?_); (with_reducible refine (laws_eqRange.calls a0_0 a0_1 a1_0 a1_1 false _ A3.out).mono ?_); rintro e w27 ⟨rfl, hb⟩; refine ⟨_, rfl, ?_⟩; replace HB := hb_ HB hb; (try clear hb)))
  go_ret
  exact ⟨by first | rfl | (simp [errW_none, errW_some] <;> rfl) | (simp [*, errW_none, errW_some] <;> rfl), sq_below HB.out⟩

end Go.Proofs.YtfeloencepgdlaaGreatDoor.Q
namespace Go.Proofs.YtfeloencepgdlaaGreatDoor.Q
open Go.RowKit Go.Proofs.YtfeloencepgdlaaGreatDoorW.PrintWords Go.Proofs.YtfeloencepgdlaaGreatDoorW.PrintLast Go.Proofs.YtfeloencepgdlaaGreatDoorW.PrintMore
attribute [local go_sem] max2_int min2_int max_two min_two max_three min_three max_four min_four   -- for this text's walks alone
set_option linter.unusedVariables false
set_option linter.unusedSimpArgs false

/-! ### laws_eqValS: function 25 -/
abbrev laws_eqValS.b0_ : Array Bool := #[false, false, false, false, false, false, false, false, false, false]
abbrev laws_eqValS.b1_ : Array Bool := #[true, false, false, false, false, false, false, false, false, false]
abbrev laws_eqValS.b2_ : Array Bool := #[true, true, false, false, false, false, false, false, false, false]
abbrev laws_eqValS.b3_ : Array Bool := #[true, true, true, false, false, false, false, false, false, false]
abbrev laws_eqValS.b4_ : Array Bool := #[true, true, true, false, true, false, false, false, false, false]
abbrev laws_eqValS.b5_ : Array Bool := #[true, true, true, false, true, true, false, false, false, false]
abbrev laws_eqValS.b6_ : Array Bool := #[true, true, true, false, true, true, true, false, false, false]
abbrev laws_eqValS.b7_ : Array Bool := #[true, true, true, true, true, true, true, false, false, false]
abbrev laws_eqValS.b8_ : Array Bool := #[true, true, true, true, true, true, true, true, false, false]
abbrev laws_eqValS.b9_ : Array Bool := #[true, true, true, true, true, true, true, true, true, false]
abbrev laws_eqValS.b10_ : Array Bool := #[true, true, true, true, true, true, true, true, true, true]
def laws_eqValS.l0 : Nat → List (S66) → List (S66) → Int → Option (Bool)
 | 0, _, _, _ => none
 | k + 1, x0, x1, x5 => if x5 < (x0.length : Int) then (if 0 ≤ x5 then (if x5 < (x1.length : Int) then ((laws_eqVal.f ((rd_T66 x0 x5).f0.f0) ((rd_T66 x0 x5).f0.f1) ((rd_T66 x0 x5).f1) ((rd_T66 x1 x5).f0.f0) ((rd_T66 x1 x5).f0.f1) ((rd_T66 x1 x5).f1)).bind fun t409 => (if t409 = true then (laws_eqValS.l0 k x0 x1 (wrap64 (x5 + 1))) else (some false))) else (none)) else (none)) else (some true)
def laws_eqValS.f (k : Nat) (l0 : List (S66)) (l1 : List (S66)) : Option (Bool) := if (l0.length : Int) = (l1.length : Int) then (laws_eqValS.l0 k l0 l1 0) else (some false)
theorem laws_eqValS.mono_l : ∀ k, (∀ y0 y1 y2, LeO (laws_eqValS.l0 k y0 y1 y2) (laws_eqValS.l0 (k + 1) y0 y1 y2))
 | 0 => fun _ _ _ r h => by simp [laws_eqValS.l0] at h
 | k + 1 => by
  have ih0 := laws_eqValS.mono_l k
  ·
   intro y0 y1 y2; unfold laws_eqValS.l0
   repeat' first
   | (with_reducible exact ih0 _ _ _)
   | (with_reducible exact LeO.refl _)
   | (with_reducible exact LeO.none _)
   | (with_reducible refine LeO.ite ?_ ?_)
   | (with_reducible refine LeO.bind ?_ (fun _ => ?_))
   | exact ih0 _ _ _
   | exact LeO.none _
   | refine LeO.ite ?_ ?_
   | refine LeO.bind ?_ (fun _ => ?_)
theorem laws_eqValS.mono : ∀ a0 a1 k, LeO (laws_eqValS.f k a0 a1) (laws_eqValS.f (k + 1) a0 a1) := by
 intro a0 a1 k; have ih0 := laws_eqValS.mono_l k; unfold laws_eqValS.f
 repeat' first
   | (with_reducible exact ih0 _ _ _)
   | (with_reducible exact LeO.refl _)
   | (with_reducible exact LeO.none _)
   | (with_reducible refine LeO.ite ?_ ?_)
   | (with_reducible refine LeO.bind ?_ (fun _ => ?_))
   | exact ih0 _ _ _
   | exact LeO.none _
   | refine LeO.ite ?_ ?_
   | refine LeO.bind ?_ (fun _ => ?_)
def laws_eqValS.T6 : Bool × List (List Nat × List Nat) := (true, [([], []), ([], []), ([0, 1], [0, 1]), ([2], [2]), ([], []), ([], []), ([4, 5], [4, 5]), ([6], [6]), ([3, 7], [3, 7]), ([8], [8])])
def laws_eqValS.B6 : List Nat := [0, 0, 3, 7, 0, 0, 48, 112, 255, 511]
theorem laws_eqValS.tab6 : rtab .any (opsOf Tryz.f25 6) = laws_eqValS.T6 := by kernel_rfl
theorem laws_eqValS.bits6 : waitsOk laws_eqValS.T6.2 laws_eqValS.B6 = true := by kernel_rfl
set_option maxHeartbeats 8000000 in
set_option maxRecDepth 100000 in
theorem laws_eqValS.calls (k : Nat) (A0 : Option Addr) (c0 : Nat) (l0 : List (S66)) (A1 : Option Addr) (c1 : Nat) (l1 : List (S66)) (r : Bool) (w : World) (hr0 : Kd.C k66 w A0 l0.length l0) (hc0 : l0.length ≤ c0) (hr1 : Kd.C k66 w A1 l1.length l1) (hc1 : l1.length ≤ c1) (h : laws_eqValS.f k l0 l1 = some r) :
  Calls Tryz.prog 25 #[.slice A0 l0.length c0, .slice A1 l1.length c1] w fun e w' => e = .returned (.bool r) ∧ Below w.heap.size w w' := by
 have hu66 := Tryz.underlying66; have HR0 := Aside0.mk hr0; have HC0 := Aside0.mk hc0; clear hr0 hc0; have HR1 := Aside0.mk hr1; have HC1 := Aside0.mk hc1; clear hr1 hc1; have HB := Aside0.mk (Below.refl w.heap.size w); have H : (if (l0.length : Int) = (l1.length : Int) then (laws_eqValS.l0 k l0 l1 0) else (some false)) = some r := h; clear h
 by_cases c3 : (l0.length : Int) = (l1.length : Int)
 ·
  rw [if_pos c3] at H; have c3b0 : ((l0.length : Int) == (l1.length : Int)) = true := beq_iff_eq.mpr c3; have c3b1 : ((l0.length : Int) != (l1.length : Int)) = false := bne_eq_false_iff_eq.mpr c3; have c3b2 : (l0.length == l1.length) = true := by first | simpa using c3 | (simp at c3 ⊢; omega)
  clear c3; have H' := Aside0.mk H; clear H
  go_enter Tryz.func25, Tryz.ntmps25
  go_wp2
  go_loopg [5] k (fun kq v5 w' => ∃ (x5_1 : Int), v5 = .int .i64 x5_1 ∧ Aside0 (laws_eqValS.l0 kq l0 l1 x5_1 = some r) ∧ Aside0 (kq ≤ k) ∧ Aside0 (Below w.heap.size w w'))
  case atStart => exact ⟨(0), (by first | rfl | (simp; done) | (simp [*]; done)), H', ⟨Nat.le_refl _⟩, ⟨sq_below HB.out⟩⟩
  case round =>
   clear H'
   try clear c1
   try clear c2
   try clear p2
   try clear c3
   try clear c3b0
   try clear c3b1
   try clear c3b2
   obtain ⟨x5_1, rfl, HA, HK1, HB⟩ := hrel; cases gk with
   | zero => exact absurd HA.out (by simp [laws_eqValS.l0])
   | succ k1 =>
    have H := HA.out; clear HA; simp only [laws_eqValS.l0] at H
    by_cases c4 : x5_1 < (l0.length : Int)
    ·
     rw [if_pos c4] at H; have c4b0 : decide (x5_1 < (l0.length : Int)) = true := decide_eq_true c4; clear c4
     by_cases c5 : 0 ≤ x5_1
     ·
      rw [if_pos c5] at H; have c5b0 : decide (0 ≤ x5_1) = true := decide_eq_true c5; clear c5
      by_cases c6 : x5_1 < (l1.length : Int)
      ·
       rw [if_pos c6] at H; have c6b0 : decide (x5_1 < (l1.length : Int)) = true := decide_eq_true c6; clear c6; replace H := Option.bind_eq_some_iff.mp H; obtain ⟨t409, A70, H⟩ := H; (try dsimp only at H); have A7 := Aside0.mk A70; clear A70
       by_cases c8 : t409 = true
       ·
        subst c8; have H1 := ifp_ H
        clear H; have H := H1; clear H1; have H' := Aside0.mk H; clear H
        try go_wp2
        replace HB := hd_ HB; have p407 : 0 ≤ (x5_1 : Int) := sq_dec; have q407 : x5_1 < (l0.length : Int) := sq_dec; obtain ⟨ad407, e407, hx407_0, hx407_1, hx407_2⟩ := at_T66 HR0.out x5_1 p407 q407; have hw407_2 := hx407_2; have hw407_1 := hx407_1; have hw407_0 := hx407_0; cases e407; replace hx407_0 := (HB.out.cell (World.block_lt_of_cell? w _ hx407_0)).trans hx407_0; replace hx407_1 := (HB.out.cell (World.block_lt_of_cell? w _ hx407_1)).trans hx407_1; replace hx407_2 := (HB.out.cell (World.block_lt_of_cell? w _ hx407_2)).trans hx407_2; replace p407 := eq_true p407; replace q407 := eq_true q407; have p408 : 0 ≤ (x5_1 : Int) := sq_dec; have q408 : x5_1 < (l1.length : Int) := sq_dec; obtain ⟨ad408, e408, hx408_0, hx408_1, hx408_2⟩ := at_T66 HR1.out x5_1 p408 q408; have hw408_2 := hx408_2; have hw408_1 := hx408_1; have hw408_0 := hx408_0; cases e408; replace hx408_0 := (HB.out.cell (World.block_lt_of_cell? w _ hx408_0)).trans hx408_0; replace hx408_1 := (HB.out.cell (World.block_lt_of_cell? w _ hx408_1)).trans hx408_1; replace hx408_2 := (HB.out.cell (World.block_lt_of_cell? w _ hx408_2)).trans hx408_2; replace p408 := eq_true p408; replace q408 := eq_true q408; refine start_ (n := 10) (S := fun w' => w'.cell? (ad407.add ((x5_1).toNat * 3)) = some (.int .i64 ((rd_T66 l0 x5_1).f0.f0)) ∧ w'.cell? ⟨(ad407.add ((x5_1).toNat * 3)).block, (ad407.add ((x5_1).toNat * 3)).off + 1, none⟩ = some (.int .i64 ((rd_T66 l0 x5_1).f0.f1)) ∧ w'.cell? ⟨(ad407.add ((x5_1).toNat * 3)).block, (ad407.add ((x5_1).toNat * 3)).off + 2, none⟩ = some (.bool ((rd_T66 l0 x5_1).f1)) ∧ w'.cell? (ad408.add ((x5_1).toNat * 3)) = some (.int .i64 ((rd_T66 l1 x5_1).f0.f0)) ∧ w'.cell? ⟨(ad408.add ((x5_1).toNat * 3)).block, (ad408.add ((x5_1).toNat * 3)).off + 1, none⟩ = some (.int .i64 ((rd_T66 l1 x5_1).f0.f1)) ∧ w'.cell? ⟨(ad408.add ((x5_1).toNat * 3)).block, (ad408.add ((x5_1).toNat * 3)).off + 2, none⟩ = some (.bool ((rd_T66 l1 x5_1).f1))) (ds := []) laws_eqValS.b0_ (by kernel_rfl) rfl rfl ⟨((HB.out.cell (World.block_lt_of_cell? w _ hw407_0)).trans hw407_0), ((HB.out.cell (World.block_lt_of_cell? w _ hw407_1)).trans hw407_1), ((HB.out.cell (World.block_lt_of_cell? w _ hw407_2)).trans hw407_2), ((HB.out.cell (World.block_lt_of_cell? w _ hw408_0)).trans hw408_0), ((HB.out.cell (World.block_lt_of_cell? w _ hw408_1)).trans hw408_1), ((HB.out.cell (World.block_lt_of_cell? w _ hw408_2)).trans hw408_2)⟩ (fun hHeld => ?_); refine with_tabW laws_eqValS.tab6 laws_eqValS.bits6 (fun HT_ HW_ => ?_); generalize wr.drew = w9 at HB hx407_0 hx407_1 hx407_2 hx408_0 hx408_1 hx408_2 hHeld ⊢; refine pure_y 0 (some 17) laws_eqValS.b1_ (any_of HT_.out (by kernel_rfl)) (h := ?_)
        refine pure_y 1 (some 18) laws_eqValS.b2_ (any_of HT_.out (by kernel_rfl)) (h := ?_)
        refine pure_y 2 (some 19) laws_eqValS.b3_ (any_of HT_.out (by kernel_rfl)) (h := ?_)
        refine pure_y 4 (some 21) laws_eqValS.b4_ (any_of HT_.out (by kernel_rfl)) (h := ?_)
        refine pure_y 5 (some 22) laws_eqValS.b5_ (any_of HT_.out (by kernel_rfl)) (h := ?_)
        refine pure_y 6 (some 23) laws_eqValS.b6_ (any_of HT_.out (by kernel_rfl)) (h := ?_)
        refine take_y 3 (some 20) laws_eqValS.b7_ rfl (take_ofW HT_.out HW_.out (by kernel_rfl)) hHeld (Or.inl ⟨by rfl, (by rintro w' ⟨s0, s1, s2, s3, s4, s5⟩; go_simp; with_reducible rfl)⟩) (h := ?_)
        refine take_y 7 (some 24) laws_eqValS.b8_ rfl (take_ofW HT_.out HW_.out (by kernel_rfl)) hHeld (Or.inl ⟨by rfl, (by rintro w' ⟨s0, s1, s2, s3, s4, s5⟩; go_simp; with_reducible rfl)⟩) (h := ?_)
        refine one_ (i := 8) (N := some 25) laws_eqValS.b9_ rfl rfl (one_of HT_.out (by kernel_rfl)) (by decide) (fun K hK => ?_); refine gs_ Tryz.func56 #[.agg #[.int .i64 ((rd_T66 l0 x5_1).f0.f0), .int .i64 ((rd_T66 l0 x5_1).f0.f1), .bool ((rd_T66 l0 x5_1).f1)], .agg #[.int .i64 ((rd_T66 l1 x5_1).f0.f0), .int .i64 ((rd_T66 l1 x5_1).f0.f1), .bool ((rd_T66 l1 x5_1).f1)]] (h := ?_); with_reducible refine (laws_eqVal.calls ((rd_T66 l0 x5_1).f0.f0) ((rd_T66 l0 x5_1).f0.f1) ((rd_T66 l0 x5_1).f1) ((rd_T66 l1 x5_1).f0.f0) ((rd_T66 l1 x5_1).f0.f1) ((rd_T66 l1 x5_1).f1) true _ A7.out).mono ?_
        rintro e w10 ⟨rfl, hb⟩; refine ⟨_, rfl, ?_⟩; replace HB := hb_ HB hb
        (try clear hb)
        (try clear hb2)
        (try clear hk)
        (try clear hi)
        refine hK.out _ _ ⟨((HB.out.cell (World.block_lt_of_cell? w _ hw407_0)).trans hw407_0), ((HB.out.cell (World.block_lt_of_cell? w _ hw407_1)).trans hw407_1), ((HB.out.cell (World.block_lt_of_cell? w _ hw407_2)).trans hw407_2), ((HB.out.cell (World.block_lt_of_cell? w _ hw408_0)).trans hw408_0), ((HB.out.cell (World.block_lt_of_cell? w _ hw408_1)).trans hw408_1), ((HB.out.cell (World.block_lt_of_cell? w _ hw408_2)).trans hw408_2)⟩ (fun hHeld => ?_); clear hK K; refine norm_y 25 (h := ?_)
        refine pure_y 9 (some 26) laws_eqValS.b10_ (any_of HT_.out (by kernel_rfl)) (h := ?_)
        refine done_ (done_of HT_.out (by kernel_rfl)) ?_
        try go_wp2
        go_roundg k1
        case measure => have := HK1.out; omega
        case rel => exact ⟨(wrap64 (x5_1 + 1)), (by first | rfl | (simp; done) | (simp [*]; done)), H', ⟨by have := HK1.out; omega⟩, ⟨sq_below HB.out⟩⟩
       ·
        replace c8 := Bool.eq_false_iff.mpr c8; subst c8; have H1 := ifn_ H
        clear H; have H := H1; clear H1; obtain rfl := Option.some.inj H
        try go_wp2
        replace HB := hd_ HB; have p407 : 0 ≤ (x5_1 : Int) := sq_dec; have q407 : x5_1 < (l0.length : Int) := sq_dec; obtain ⟨ad407, e407, hx407_0, hx407_1, hx407_2⟩ := at_T66 HR0.out x5_1 p407 q407; have hw407_2 := hx407_2; have hw407_1 := hx407_1; have hw407_0 := hx407_0; cases e407; replace hx407_0 := (HB.out.cell (World.block_lt_of_cell? w _ hx407_0)).trans hx407_0; replace hx407_1 := (HB.out.cell (World.block_lt_of_cell? w _ hx407_1)).trans hx407_1; replace hx407_2 := (HB.out.cell (World.block_lt_of_cell? w _ hx407_2)).trans hx407_2; replace p407 := eq_true p407; replace q407 := eq_true q407; have p408 : 0 ≤ (x5_1 : Int) := sq_dec; have q408 : x5_1 < (l1.length : Int) := sq_dec; obtain ⟨ad408, e408, hx408_0, hx408_1, hx408_2⟩ := at_T66 HR1.out x5_1 p408 q408; have hw408_2 := hx408_2; have hw408_1 := hx408_1; have hw408_0 := hx408_0; cases e408; replace hx408_0 := (HB.out.cell (World.block_lt_of_cell? w _ hx408_0)).trans hx408_0; replace hx408_1 := (HB.out.cell (World.block_lt_of_cell? w _ hx408_1)).trans hx408_1; replace hx408_2 := (HB.out.cell (World.block_lt_of_cell? w _ hx408_2)).trans hx408_2; replace p408 := eq_true p408; replace q408 := eq_true q408; refine start_ (n := 10) (S := fun w' => w'.cell? (ad407.add ((x5_1).toNat * 3)) = some (.int .i64 ((rd_T66 l0 x5_1).f0.f0)) ∧ w'.cell? ⟨(ad407.add ((x5_1).toNat * 3)).block, (ad407.add ((x5_1).toNat * 3)).off + 1, none⟩ = some (.int .i64 ((rd_T66 l0 x5_1).f0.f1)) ∧ w'.cell? ⟨(ad407.add ((x5_1).toNat * 3)).block, (ad407.add ((x5_1).toNat * 3)).off + 2, none⟩ = some (.bool ((rd_T66 l0 x5_1).f1)) ∧ w'.cell? (ad408.add ((x5_1).toNat * 3)) = some (.int .i64 ((rd_T66 l1 x5_1).f0.f0)) ∧ w'.cell? ⟨(ad408.add ((x5_1).toNat * 3)).block, (ad408.add ((x5_1).toNat * 3)).off + 1, none⟩ = some (.int .i64 ((rd_T66 l1 x5_1).f0.f1)) ∧ w'.cell? ⟨(ad408.add ((x5_1).toNat * 3)).block, (ad408.add ((x5_1).toNat * 3)).off + 2, none⟩ = some (.bool ((rd_T66 l1 x5_1).f1))) (ds := []) laws_eqValS.b0_ (by kernel_rfl) rfl rfl ⟨((HB.out.cell (World.block_lt_of_cell? w _ hw407_0)).trans hw407_0), ((HB.out.cell (World.block_lt_of_cell? w _ hw407_1)).trans hw407_1), ((HB.out.cell (World.block_lt_of_cell? w _ hw407_2)).trans hw407_2), ((HB.out.cell (World.block_lt_of_cell? w _ hw408_0)).trans hw408_0), ((HB.out.cell (World.block_lt_of_cell? w _ hw408_1)).trans hw408_1), ((HB.out.cell (World.block_lt_of_cell? w _ hw408_2)).trans hw408_2)⟩ (fun hHeld => ?_); refine with_tabW laws_eqValS.tab6 laws_eqValS.bits6 (fun HT_ HW_ => ?_); generalize wr.drew = w11 at HB hx407_0 hx407_1 hx407_2 hx408_0 hx408_1 hx408_2 hHeld ⊢; refine pure_y 0 (some 17) laws_eqValS.b1_ (any_of HT_.out (by kernel_rfl)) (h := ?_)
        refine pure_y 1 (some 18) laws_eqValS.b2_ (any_of HT_.out (by kernel_rfl)) (h := ?_)
        refine pure_y 2 (some 19) laws_eqValS.b3_ (any_of HT_.out (by kernel_rfl)) (h := ?_)
        refine pure_y 4 (some 21) laws_eqValS.b4_ (any_of HT_.out (by kernel_rfl)) (h := ?_)
        refine pure_y 5 (some 22) laws_eqValS.b5_ (any_of HT_.out (by kernel_rfl)) (h := ?_)
        refine pure_y 6 (some 23) laws_eqValS.b6_ (any_of HT_.out (by kernel_rfl)) (h := ?_)
        refine take_y 3 (some 20) laws_eqValS.b7_ rfl (take_ofW HT_.out HW_.out (by kernel_rfl)) hHeld (Or.inl ⟨by rfl, (by rintro w' ⟨s0, s1, s2, s3, s4, s5⟩; go_simp; with_reducible rfl)⟩) (h := ?_)
        refine take_y 7 (some 24) laws_eqValS.b8_ rfl (take_ofW HT_.out HW_.out (by kernel_rfl)) hHeld (Or.inl ⟨by rfl, (by rintro w' ⟨s0, s1, s2, s3, s4, s5⟩; go_simp; with_reducible rfl)⟩) (h := ?_)
        refine one_ (i := 8) (N := some 25) laws_eqValS.b9_ rfl rfl (one_of HT_.out (by kernel_rfl)) (by decide) (fun K hK => ?_); refine gs_ Tryz.func56 #[.agg #[.int .i64 ((rd_T66 l0 x5_1).f0.f0), .int .i64 ((rd_T66 l0 x5_1).f0.f1), .bool ((rd_T66 l0 x5_1).f1)], .agg #[.int .i64 ((rd_T66 l1 x5_1).f0.f0), .int .i64 ((rd_T66 l1 x5_1).f0.f1), .bool ((rd_T66 l1 x5_1).f1)]] (h := ?_); with_reducible refine (laws_eqVal.calls ((rd_T66 l0 x5_1).f0.f0) ((rd_T66 l0 x5_1).f0.f1) ((rd_T66 l0 x5_1).f1) ((rd_T66 l1 x5_1).f0.f0) ((rd_T66 l1 x5_1).f0.f1) ((rd_T66 l1 x5_1).f1) false _ A7.out).mono ?_
        rintro e w12 ⟨rfl, hb⟩; refine ⟨_, rfl, ?_⟩; replace HB := hb_ HB hb
        (try clear hb)
        (try clear hb2)
        (try clear hk)
        (try clear hi)
        refine hK.out _ _ ⟨((HB.out.cell (World.block_lt_of_cell? w _ hw407_0)).trans hw407_0), ((HB.out.cell (World.block_lt_of_cell? w _ hw407_1)).trans hw407_1), ((HB.out.cell (World.block_lt_of_cell? w _ hw407_2)).trans hw407_2), ((HB.out.cell (World.block_lt_of_cell? w _ hw408_0)).trans hw408_0), ((HB.out.cell (World.block_lt_of_cell? w _ hw408_1)).trans hw408_1), ((HB.out.cell (World.block_lt_of_cell? w _ hw408_2)).trans hw408_2)⟩ (fun hHeld => ?_); clear hK K; refine norm_y 25 (h := ?_)
        refine pure_y 9 (some 26) laws_eqValS.b10_ (any_of HT_.out (by kernel_rfl)) (h := ?_)
        refine done_ (done_of HT_.out (by kernel_rfl)) ?_
        try go_wp2
        go_ret
        exact ⟨by first | rfl | (simp [errW_none, errW_some] <;> rfl) | (simp [*, errW_none, errW_some] <;> rfl), sq_below HB.out⟩
      ·
       rw [if_neg c6] at H; exact absurd H (by simp)
     ·
      rw [if_neg c5] at H; exact absurd H (by simp)
    ·
     rw [if_neg c4] at H; have c4b0 : decide (x5_1 < (l0.length : Int)) = false := decide_eq_false c4; clear c4; obtain rfl := Option.some.inj H
     go_wp2
     go_ret
     exact ⟨by first | rfl | (simp [errW_none, errW_some] <;> rfl) | (simp [*, errW_none, errW_some] <;> rfl), sq_below HB.out⟩
 ·
  rw [if_neg c3] at H; have c3b0 : ((l0.length : Int) == (l1.length : Int)) = false := beq_eq_false_iff_ne.mpr c3; have c3b1 : ((l0.length : Int) != (l1.length : Int)) = true := bne_iff_ne.mpr c3; have c3b2 : (l0.length == l1.length) = false := by first | simpa using c3 | (simp at c3 ⊢; omega)
  obtain rfl := Option.some.inj H
  go_enter Tryz.func25, Tryz.ntmps25
  go_wp2
  go_ret
  exact ⟨by first | rfl | (simp [errW_none, errW_some] <;> rfl) | (simp [*, errW_none, errW_some] <;> rfl), sq_below HB.out⟩

end Go.Proofs.YtfeloencepgdlaaGreatDoor.Q
namespace Go.Proofs.YtfeloencepgdlaaGreatDoor.Q
open Go.RowKit Go.Proofs.YtfeloencepgdlaaGreatDoorW.PrintWords Go.Proofs.YtfeloencepgdlaaGreatDoorW.PrintLast Go.Proofs.YtfeloencepgdlaaGreatDoorW.PrintMore
attribute [local go_sem] max2_int min2_int max_two min_two max_three min_three max_four min_four   -- for this text's walks alone
set_option linter.unusedVariables false
set_option linter.unusedSimpArgs false

/-! ### laws_eqBoolS: function 26 -/
def laws_eqBoolS.l0 : Nat → List Bool → List Bool → Int → Option (Bool)
 | 0, _, _, _ => none
 | k + 1, x0, x1, x5 => if x5 < (x0.length : Int) then (if 0 ≤ x5 then (if x5 < (x1.length : Int) then (if ((rdOf false x0 x5) != (rdOf false x1 x5)) = true then (some false) else (laws_eqBoolS.l0 k x0 x1 (wrap64 (x5 + 1)))) else (none)) else (none)) else (some true)
def laws_eqBoolS.f (k : Nat) (l0 : List Bool) (l1 : List Bool) : Option (Bool) := if (l0.length : Int) = (l1.length : Int) then (laws_eqBoolS.l0 k l0 l1 0) else (some false)
theorem laws_eqBoolS.mono_l : ∀ k, (∀ y0 y1 y2, LeO (laws_eqBoolS.l0 k y0 y1 y2) (laws_eqBoolS.l0 (k + 1) y0 y1 y2))
 | 0 => fun _ _ _ r h => by simp [laws_eqBoolS.l0] at h
 | k + 1 => by
  have ih0 := laws_eqBoolS.mono_l k
  ·
   intro y0 y1 y2; unfold laws_eqBoolS.l0
   repeat' first
   | (with_reducible exact ih0 _ _ _)
   | (with_reducible exact LeO.refl _)
   | (with_reducible exact LeO.none _)
   | (with_reducible refine LeO.ite ?_ ?_)
   | (with_reducible refine LeO.bind ?_ (fun _ => ?_))
   | exact ih0 _ _ _
   | exact LeO.none _
   | refine LeO.ite ?_ ?_
   | refine LeO.bind ?_ (fun _ => ?_)
theorem laws_eqBoolS.mono : ∀ a0 a1 k, LeO (laws_eqBoolS.f k a0 a1) (laws_eqBoolS.f (k + 1) a0 a1) := by
 intro a0 a1 k; have ih0 := laws_eqBoolS.mono_l k; unfold laws_eqBoolS.f
 repeat' first
   | (with_reducible exact ih0 _ _ _)
   | (with_reducible exact LeO.refl _)
   | (with_reducible exact LeO.none _)
   | (with_reducible refine LeO.ite ?_ ?_)
   | (with_reducible refine LeO.bind ?_ (fun _ => ?_))
   | exact ih0 _ _ _
   | exact LeO.none _
   | refine LeO.ite ?_ ?_
   | refine LeO.bind ?_ (fun _ => ?_)
set_option maxHeartbeats 8000000 in
set_option maxRecDepth 100000 in
theorem laws_eqBoolS.calls (k : Nat) (A0 : Option Addr) (c0 : Nat) (l0 : List Bool) (A1 : Option Addr) (c1 : Nat) (l1 : List Bool) (r : Bool) (w : World) (hr0 : Kd.C Kd.bool w A0 l0.length l0) (hc0 : l0.length ≤ c0) (hr1 : Kd.C Kd.bool w A1 l1.length l1) (hc1 : l1.length ≤ c1) (h : laws_eqBoolS.f k l0 l1 = some r) :
  Calls Tryz.prog 26 #[.slice A0 l0.length c0, .slice A1 l1.length c1] w fun e w' => e = .returned (.bool r) ∧ Drawn0 w w' := by
 have HR0 := Aside0.mk hr0; have HC0 := Aside0.mk hc0; clear hr0 hc0; have HR1 := Aside0.mk hr1; have HC1 := Aside0.mk hc1; clear hr1 hc1; have H : (if (l0.length : Int) = (l1.length : Int) then (laws_eqBoolS.l0 k l0 l1 0) else (some false)) = some r := h; clear h
 by_cases c3 : (l0.length : Int) = (l1.length : Int)
 ·
  rw [if_pos c3] at H; have c3b0 : ((l0.length : Int) == (l1.length : Int)) = true := beq_iff_eq.mpr c3; have c3b1 : ((l0.length : Int) != (l1.length : Int)) = false := bne_eq_false_iff_eq.mpr c3; have c3b2 : (l0.length == l1.length) = true := by first | simpa using c3 | (simp at c3 ⊢; omega)
  clear c3; have H' := Aside0.mk H; clear H
  go_enter Tryz.func26, Tryz.ntmps26
  go_wp2
  repeat (go_quiet (fail); try go_wp2)
  go_loopg [5] k (fun kq v5 w' => ∃ (x5_1 : Int), v5 = .int .i64 x5_1 ∧ Aside0 (laws_eqBoolS.l0 kq l0 l1 x5_1 = some r) ∧ Aside0 (kq ≤ k) ∧ Drawn0 w w')
  case atStart => exact ⟨(0), (by first | rfl | (simp; done) | (simp [*]; done)), H', ⟨Nat.le_refl _⟩, by repeat (first | exact Drawn0.refl _ | apply Drawn0.step)⟩
  case round =>
   clear H'
   try clear c1
   try clear c2
   try clear p2
   try clear c3
   try clear c3b0
   try clear c3b1
   try clear c3b2
   obtain ⟨x5_1, rfl, HA, HK1, ⟨m1, rfl⟩⟩ := hrel; cases gk with
   | zero => exact absurd HA.out (by simp [laws_eqBoolS.l0])
   | succ k1 =>
    have H := HA.out; clear HA; simp only [laws_eqBoolS.l0] at H
    by_cases c4 : x5_1 < (l0.length : Int)
    ·
     rw [if_pos c4] at H; have c4b0 : decide (x5_1 < (l0.length : Int)) = true := decide_eq_true c4; clear c4
     by_cases c5 : 0 ≤ x5_1
     ·
      rw [if_pos c5] at H; have c5b0 : decide (0 ≤ x5_1) = true := decide_eq_true c5; clear c5
      by_cases c6 : x5_1 < (l1.length : Int)
      ·
       rw [if_pos c6] at H; have c6b0 : decide (x5_1 < (l1.length : Int)) = true := decide_eq_true c6; clear c6
       by_cases c7 : ((rdOf false l0 x5_1) != (rdOf false l1 x5_1)) = true
       ·
        rw [if_pos c7] at H; have c7b0 : ((rdOf false l0 x5_1) != (rdOf false l1 x5_1)) = true := c7
        (try (have c7b1 : decide ((rdOf false l0 x5_1) = (rdOf false l1 x5_1)) = false := by simpa using c7))
        (try (have c7b2 : ((rdOf false l0 x5_1) == (rdOf false l1 x5_1)) = false := by simpa using c7))
        (try (have c7b3 : ¬ ((rdOf false l0 x5_1) = (rdOf false l1 x5_1)) := by simpa using c7))
        clear c7; obtain rfl := Option.some.inj H; have p410 : 0 ≤ (x5_1 : Int) := sq_dec; have q410 : x5_1 < (l0.length : Int) := sq_dec; obtain ⟨ad410, e410, hx410_0⟩ := Kd.at_bool HR0.out x5_1 p410 q410; cases e410; replace p410 := eq_true p410; replace q410 := eq_true q410; have p411 : 0 ≤ (x5_1 : Int) := sq_dec; have q411 : x5_1 < (l1.length : Int) := sq_dec; obtain ⟨ad411, e411, hx411_0⟩ := Kd.at_bool HR1.out x5_1 p411 q411; cases e411; replace p411 := eq_true p411; replace q411 := eq_true q411
        go_wp2
        repeat (go_quiet (fail); try go_wp2)
        go_ret
        exact ⟨by first | rfl | (simp; done) | (simp [*]; done), by repeat (first | exact Drawn0.refl _ | apply Drawn0.step)⟩
       ·
        rw [if_neg c7] at H; have c7b0 : ((rdOf false l0 x5_1) != (rdOf false l1 x5_1)) = false := by simpa using c7
        (try (have c7b1 : decide ((rdOf false l0 x5_1) = (rdOf false l1 x5_1)) = true := by simpa using c7))
        (try (have c7b2 : ((rdOf false l0 x5_1) == (rdOf false l1 x5_1)) = true := by simpa using c7))
        clear c7; have H' := Aside0.mk H; clear H; have p410 : 0 ≤ (x5_1 : Int) := sq_dec; have q410 : x5_1 < (l0.length : Int) := sq_dec; obtain ⟨ad410, e410, hx410_0⟩ := Kd.at_bool HR0.out x5_1 p410 q410; cases e410; replace p410 := eq_true p410; replace q410 := eq_true q410; have p411 : 0 ≤ (x5_1 : Int) := sq_dec; have q411 : x5_1 < (l1.length : Int) := sq_dec; obtain ⟨ad411, e411, hx411_0⟩ := Kd.at_bool HR1.out x5_1 p411 q411; cases e411; replace p411 := eq_true p411; replace q411 := eq_true q411
        go_wp2
        repeat (go_quiet (fail); try go_wp2)
        go_roundg k1
        case measure => have := HK1.out; omega
        case rel => exact ⟨(wrap64 (x5_1 + 1)), (by first | rfl | (simp; done) | (simp [*]; done)), H', ⟨by have := HK1.out; omega⟩, by repeat (first | exact Drawn0.refl _ | apply Drawn0.step)⟩
      ·
       rw [if_neg c6] at H; exact absurd H (by simp)
     ·
      rw [if_neg c5] at H; exact absurd H (by simp)
    ·
     rw [if_neg c4] at H; have c4b0 : decide (x5_1 < (l0.length : Int)) = false := decide_eq_false c4; clear c4; obtain rfl := Option.some.inj H
     go_wp2
     repeat (go_quiet (fail); try go_wp2)
     go_ret
     exact ⟨by first | rfl | (simp; done) | (simp [*]; done), by repeat (first | exact Drawn0.refl _ | apply Drawn0.step)⟩
 ·
  rw [if_neg c3] at H; have c3b0 : ((l0.length : Int) == (l1.length : Int)) = false := beq_eq_false_iff_ne.mpr c3; have c3b1 : ((l0.length : Int) != (l1.length : Int)) = true := bne_iff_ne.mpr c3; have c3b2 : (l0.length == l1.length) = false := by first | simpa using c3 | (simp at c3 ⊢; omega)
  obtain rfl := Option.some.inj H
  go_enter Tryz.func26, Tryz.ntmps26
  go_wp2
  repeat (go_quiet (fail); try go_wp2)
  go_ret
  exact ⟨by first | rfl | (simp; done) | (simp [*]; done), by repeat (first | exact Drawn0.refl _ | apply Drawn0.step)⟩

/-! ### laws_eqSeg: function 10 -/
def laws_eqSeg.f (k : Nat) (l0_0 : List (List (S59))) (l0_1 : List (S66)) (l0_2 : List Bool) (l1_0 : List (List (S59))) (l1_1 : List (S66)) (l1_2 : List Bool) : Option (Bool) := (laws_eqSymSS.f k l0_0 l1_0).bind fun t414 => (if t414 = true then ((laws_eqValS.f k l0_1 l1_1).bind fun t415 => (if t415 = true then ((laws_eqBoolS.f k l0_2 l1_2).bind fun t416 => (if t416 = true then (some true) else (some false))) else (some false))) else (some false))
theorem laws_eqSeg.mono : ∀ a0 a1 a2 a3 a4 a5 k, LeO (laws_eqSeg.f k a0 a1 a2 a3 a4 a5) (laws_eqSeg.f (k + 1) a0 a1 a2 a3 a4 a5) := by
 intro a0 a1 a2 a3 a4 a5 k; unfold laws_eqSeg.f
 repeat' first
   | (with_reducible exact laws_eqBoolS.mono _ _ _)
   | (with_reducible exact laws_eqSymSS.mono _ _ _)
   | (with_reducible exact laws_eqValS.mono _ _ _)
   | (with_reducible exact LeO.refl _)
   | (with_reducible exact LeO.none _)
   | (with_reducible refine LeO.ite ?_ ?_)
   | (with_reducible refine LeO.bind ?_ (fun _ => ?_))
   | exact laws_eqBoolS.mono _ _ _
   | exact laws_eqSymSS.mono _ _ _
   | exact laws_eqValS.mono _ _ _
   | exact LeO.none _
   | refine LeO.ite ?_ ?_
   | refine LeO.bind ?_ (fun _ => ?_)
set_option maxHeartbeats 8000000 in
set_option maxRecDepth 100000 in
theorem laws_eqSeg.calls (k : Nat) (A0_0 : Option Addr) (c0_0 : Nat) (l0_0 : List (List (S59))) (A0_1 : Option Addr) (c0_1 : Nat) (l0_1 : List (S66)) (A0_2 : Option Addr) (c0_2 : Nat) (l0_2 : List Bool) (A1_0 : Option Addr) (c1_0 : Nat) (l1_0 : List (List (S59))) (A1_1 : Option Addr) (c1_1 : Nat) (l1_1 : List (S66)) (A1_2 : Option Addr) (c1_2 : Nat) (l1_2 : List Bool) (r : Bool) (w : World) (hr0_0 : Kd.C (Kd.slice 59 k59) w A0_0 l0_0.length l0_0) (hc0_0 : l0_0.length ≤ c0_0) (hr0_1 : Kd.C k66 w A0_1 l0_1.length l0_1) (hc0_1 : l0_1.length ≤ c0_1) (hr0_2 : Kd.C Kd.bool w A0_2 l0_2.length l0_2) (hc0_2 : l0_2.length ≤ c0_2) (hr1_0 : Kd.C (Kd.slice 59 k59) w A1_0 l1_0.length l1_0) (hc1_0 : l1_0.length ≤ c1_0) (hr1_1 : Kd.C k66 w A1_1 l1_1.length l1_1) (hc1_1 : l1_1.length ≤ c1_1) (hr1_2 : Kd.C Kd.bool w A1_2 l1_2.length l1_2) (hc1_2 : l1_2.length ≤ c1_2) (h : laws_eqSeg.f k l0_0 l0_1 l0_2 l1_0 l1_1 l1_2 = some r) :
  Calls Tryz.prog 10 #[.agg #[.slice A0_0 l0_0.length c0_0, .slice A0_1 l0_1.length c0_1, .slice A0_2 l0_2.length c0_2], .agg #[.slice A1_0 l1_0.length c1_0, .slice A1_1 l1_1.length c1_1, .slice A1_2 l1_2.length c1_2]] w fun e w' => e = .returned (.bool r) ∧ Below w.heap.size w w' := by
 have hu34 := Tryz.underlying34; have HR0_0 := Aside0.mk hr0_0; have HC0_0 := Aside0.mk hc0_0; clear hr0_0 hc0_0; have HR0_1 := Aside0.mk hr0_1; have HC0_1 := Aside0.mk hc0_1; clear hr0_1 hc0_1; have HR0_2 := Aside0.mk hr0_2; have HC0_2 := Aside0.mk hc0_2; clear hr0_2 hc0_2; have HR1_0 := Aside0.mk hr1_0; have HC1_0 := Aside0.mk hc1_0; clear hr1_0 hc1_0; have HR1_1 := Aside0.mk hr1_1; have HC1_1 := Aside0.mk hc1_1; clear hr1_1 hc1_1; have HR1_2 := Aside0.mk hr1_2; have HC1_2 := Aside0.mk hc1_2; clear hr1_2 hc1_2; have HB := Aside0.mk (Below.refl w.heap.size w); have H : ((laws_eqSymSS.f k l0_0 l1_0).bind fun t414 => (if t414 = true then ((laws_eqValS.f k l0_1 l1_1).bind fun t415 => (if t415 = true then ((laws_eqBoolS.f k l0_2 l1_2).bind fun t416 => (if t416 = true then (some true) else (some false))) else (some false))) else (some false))) = some r := h; clear h; replace H := Option.bind_eq_some_iff.mp H; obtain ⟨t414, A30, H⟩ := H; (try dsimp only at H); have A3 := Aside0.mk A30; clear A30
 by_cases c4 : t414 = true
 ·
  subst c4; have H1 := ifp_ H
  clear H; have H := H1; clear H1; replace H := Option.bind_eq_some_iff.mp H; obtain ⟨t415, A50, H⟩ := H; (try dsimp only at H); have A5 := Aside0.mk A50; clear A50
  by_cases c6 : t415 = true
  ·
   subst c6; have H1 := ifp_ H
   clear H; have H := H1; clear H1; replace H := Option.bind_eq_some_iff.mp H; obtain ⟨t416, A70, H⟩ := H; (try dsimp only at H); have A7 := Aside0.mk A70; clear A70
   by_cases c8 : t416 = true
   ·
    subst c8; have H1 := ifp_ H
    clear H; have H := H1; clear H1; obtain rfl := Option.some.inj H
    go_enter Tryz.func10, Tryz.ntmps10
    go_wp2_with (first | ((with_reducible refine gate_dst (N := 2) rfl ?_); refine box_y 2 #[.slice A0_0 l0_0.length c0_0, .slice A0_1 l0_1.length c0_1, .slice A0_2 l0_2.length c0_2] 34 (h := ?_); intro gb412 hg w9 hbox hb; have n0_ := Aside0.mk (below_step (sq_below HB.out) hb); have n1_ := Aside0.mk (hbox); have n2_ := ge_ hg (below_size (sq_below HB.out)); have n3_ := ge_ hg (below_size (sq_below HB.out)); clear HB; have HB := n0_; have BK412 := n1_; have GW412 := n2_; have GE412 := n3_; clear n0_ n1_ n2_ n3_; clear hb hbox hg) | ((with_reducible refine gate_dst (N := 3) rfl ?_); refine box_y 3 #[.slice A1_0 l1_0.length c1_0, .slice A1_1 l1_1.length c1_1, .slice A1_2 l1_2.length c1_2] 34 (h := ?_); intro gb413 hg w10 hbox hb; have n0_ := Aside0.mk (blk_below (sq_blk BK412.out) hb); have n1_ := Aside0.mk (below_step (sq_below1 HB.out GE412.out) hb); have n2_ := Aside0.mk (hbox); have n3_ := ge_ hg (below_size (sq_below1 HB.out GE412.out)); have n4_ := ge_ hg (below_size (sq_below1 HB.out GE412.out)); have n5_ := nb_ hg BK412; have n6_ := Aside0.mk (Ne.symm n5_.out); clear BK412; clear HB; have BK412 := n0_; have HB := n1_; have BK413 := n2_; have GW413 := n3_; have GE413 := n4_; have NB412_413 := n5_; have NB413_412 := n6_; clear n0_ n1_ n2_ n3_ n4_ n5_ n6_; clear hb hbox hg; have hnb11 := NB412_413.out; have hnc11 := NB413_412.out; have hcz12_0 := cl_ (v := .slice A0_0 l0_0.length c0_0) BK412 0; have hcz12_1 := cl_ (v := .slice A0_1 l0_1.length c0_1) BK412 1; have hcz12_2 := cl_ (v := .slice A0_2 l0_2.length c0_2) BK412 2; have hfz12_0 := blk_frozen BK412.out 0; have hfz12_1 := blk_frozen BK412.out 1; have hfz12_2 := blk_frozen BK412.out 2; have hcz13_0 := cl_ (v := .slice A1_0 l1_0.length c1_0) BK413 0; have hcz13_1 := cl_ (v := .slice A1_1 l1_1.length c1_1) BK413 1; have hcz13_2 := cl_ (v := .slice A1_2 l1_2.length c1_2) BK413 2; have hfz13_0 := blk_frozen BK413.out 0; have hfz13_1 := blk_frozen BK413.out 1; have hfz13_2 := blk_frozen BK413.out 2) | ((with_reducible refine gate_callee (f := 24) rfl ?_); refine gl_ 9 Tryz.func24 #[.slice A0_0 l0_0.length c0_0, .slice A1_0 l1_0.length c1_0] (h := ?_); (with_reducible refine (laws_eqSymSS.calls k _ _ l0_0 _ _ l1_0 true _ ?side1 ?side2 ?side3 ?side4 A3.out).mono ?_); (case side1 => exact sq_c (Kd.C_below HR0_0.out HB.out)); (case side2 => exact HC0_0.out); (case side3 => exact sq_c (Kd.C_below HR1_0.out HB.out)); (case side4 => exact HC1_0.out); rintro e w14 ⟨rfl, hb⟩; refine ⟨_, rfl, ?_⟩; replace BK412 := bb_ BK412 hb; replace BK413 := bb_ BK413 hb; replace HB := hb2_ HB hb GE412 GE413; (try clear hb); have hcz15_0 := cl_ (v := .slice A0_0 l0_0.length c0_0) BK412 0; have hcz15_1 := cl_ (v := .slice A0_1 l0_1.length c0_1) BK412 1; have hcz15_2 := cl_ (v := .slice A0_2 l0_2.length c0_2) BK412 2; have hfz15_0 := blk_frozen BK412.out 0; have hfz15_1 := blk_frozen BK412.out 1; have hfz15_2 := blk_frozen BK412.out 2; have hcz16_0 := cl_ (v := .slice A1_0 l1_0.length c1_0) BK413 0; have hcz16_1 := cl_ (v := .slice A1_1 l1_1.length c1_1) BK413 1; have hcz16_2 := cl_ (v := .slice A1_2 l1_2.length c1_2) BK413 2; have hfz16_0 := blk_frozen BK413.out 0; have hfz16_1 := blk_frozen BK413.out 1; have hfz16_2 := blk_frozen BK413.out 2) | ((with_reducible refine gate_callee (f := 25) rfl ?_); refine gl_ 15 Tryz.func25 #[.slice A0_1 l0_1.length c0_1, .slice A1_1 l1_1.length c1_1] (h := ?_); (with_reducible refine (laws_eqValS.calls k _ _ l0_1 _ _ l1_1 true _ ?side1 ?side2 ?side3 ?side4 A5.out).mono ?_); (case side1 => exact sq_c (Kd.C_below HR0_1.out HB.out)); (case side2 => exact HC0_1.out); (case side3 => exact sq_c (Kd.C_below HR1_1.out HB.out)); (case side4 => exact HC1_1.out); rintro e w17 ⟨rfl, hb⟩; refine ⟨_, rfl, ?_⟩; replace BK412 := bb_ BK412 hb; replace BK413 := bb_ BK413 hb; replace HB := hb2_ HB hb GE412 GE413; (try clear hb); have hcz18_0 := cl_ (v := .slice A0_0 l0_0.length c0_0) BK412 0; have hcz18_1 := cl_ (v := .slice A0_1 l0_1.length c0_1) BK412 1; have hcz18_2 := cl_ (v := .slice A0_2 l0_2.length c0_2) BK412 2; have hfz18_0 := blk_frozen BK412.out 0; have hfz18_1 := blk_frozen BK412.out 1; have hfz18_2 := blk_frozen BK412.out 2; have hcz19_0 := cl_ (v := .slice A1_0 l1_0.length c1_0) BK413 0; have hcz19_1 := cl_ (v := .slice A1_1 l1_1.length c1_1) BK413 1; have hcz19_2 := cl_ (v := .slice A1_2 l1_2.length c1_2) BK413 2; have hfz19_0 := blk_frozen BK413.out 0; have hfz19_1 := blk_frozen BK413.out 1; have hfz19_2 := blk_frozen BK413.out 2) | ((with_reducible refine gate_callee (f := 26) rfl ?_); refine gl_ 21 Tryz.func26 #[.slice A0_2 l0_2.length c0_2, .slice A1_2 l1_2.length c1_2] (h := ?_); (with_reducible refine (laws_eqBoolS.calls k _ _ l0_2 _ _ l1_2 true _ ?side1 ?side2 ?side3 ?side4 A7.out).mono ?_); (case side1 => exact sq_c (Kd.C_below HR0_2.out HB.out)); (case side2 => exact HC0_2.out); (case side3 => exact sq_c (Kd.C_below HR1_2.out HB.out)); (case side4 => exact HC1_2.out); rintro e w' ⟨rfl, ⟨nd, rfl⟩⟩; refine ⟨_, rfl, ?_⟩))
    go_ret
    exact ⟨by first | rfl | (simp [errW_none, errW_some] <;> rfl) | (simp [*, errW_none, errW_some] <;> rfl), sq_below HB.out⟩
   ·
    replace c8 := Bool.eq_false_iff.mpr c8; subst c8; have H1 := ifn_ H
    clear H; have H := H1; clear H1; obtain rfl := Option.some.inj H
    go_enter Tryz.func10, Tryz.ntmps10
    go_wp2_with (first | ((with_reducible refine gate_dst (N := 2) rfl ?_); refine box_y 2 #[.slice A0_0 l0_0.length c0_0, .slice A0_1 l0_1.length c0_1, .slice A0_2 l0_2.length c0_2] 34 (h := ?_); intro gb412 hg w20 hbox hb; have n0_ := Aside0.mk (below_step (sq_below HB.out) hb); have n1_ := Aside0.mk (hbox); have n2_ := ge_ hg (below_size (sq_below HB.out)); have n3_ := ge_ hg (below_size (sq_below HB.out)); clear HB; have HB := n0_; have BK412 := n1_; have GW412 := n2_; have GE412 := n3_; clear n0_ n1_ n2_ n3_; clear hb hbox hg) | ((with_reducible refine gate_dst (N := 3) rfl ?_); refine box_y 3 #[.slice A1_0 l1_0.length c1_0, .slice A1_1 l1_1.length c1_1, .slice A1_2 l1_2.length c1_2] 34 (h := ?_); intro gb413 hg w21 hbox hb; have n0_ := Aside0.mk (blk_below (sq_blk BK412.out) hb); have n1_ := Aside0.mk (below_step (sq_below1 HB.out GE412.out) hb); have n2_ := Aside0.mk (hbox); have n3_ := ge_ hg (below_size (sq_below1 HB.out GE412.out)); have n4_ := ge_ hg (below_size (sq_below1 HB.out GE412.out)); have n5_ := nb_ hg BK412; have n6_ := Aside0.mk (Ne.symm n5_.out); clear BK412; clear HB; have BK412 := n0_; have HB := n1_; have BK413 := n2_; have GW413 := n3_; have GE413 := n4_; have NB412_413 := n5_; have NB413_412 := n6_; clear n0_ n1_ n2_ n3_ n4_ n5_ n6_; clear hb hbox hg; have hnb22 := NB412_413.out; have hnc22 := NB413_412.out; have hcz23_0 := cl_ (v := .slice A0_0 l0_0.length c0_0) BK412 0; have hcz23_1 := cl_ (v := .slice A0_1 l0_1.length c0_1) BK412 1; have hcz23_2 := cl_ (v := .slice A0_2 l0_2.length c0_2) BK412 2; have hfz23_0 := blk_frozen BK412.out 0; have hfz23_1 := blk_frozen BK412.out 1; have hfz23_2 := blk_frozen BK412.out 2; have hcz24_0 := cl_ (v := .slice A1_0 l1_0.length c1_0) BK413 0; have hcz24_1 := cl_ (v := .slice A1_1 l1_1.length c1_1) BK413 1; have hcz24_2 := cl_ (v := .slice A1_2 l1_2.length c1_2) BK413 2; have hfz24_0 := blk_frozen BK413.out 0; have hfz24_1 := blk_frozen BK413.out 1; have hfz24_2 := blk_frozen BK413.out 2) | ((with_reducible refine gate_callee (f := 24) rfl ?_); refine gl_ 9 Tryz.func24 #[.slice A0_0 l0_0.length c0_0, .slice A1_0 l1_0.length c1_0] (h := ?_); (with_reducible refine (laws_eqSymSS.calls k _ _ l0_0 _ _ l1_0 true _ ?side1 ?side2 ?side3 ?side4 A3.out).mono ?_); (case side1 => exact sq_c (Kd.C_below HR0_0.out HB.out)); (case side2 => exact HC0_0.out); (case side3 => exact sq_c (Kd.C_below HR1_0.out HB.out)); (case side4 => exact HC1_0.out); rintro e w25 ⟨rfl, hb⟩; refine ⟨_, rfl, ?_⟩; replace BK412 := bb_ BK412 hb; replace BK413 := bb_ BK413 hb; replace HB := hb2_ HB hb GE412 GE413; (try clear hb); have hcz26_0 := cl_ (v := .slice A0_0 l0_0.length c0_0) BK412 0; have hcz26_1 := cl_ (v := .slice A0_1 l0_1.length c0_1) BK412 1; have hcz26_2 := cl_ (v := .slice A0_2 l0_2.length c0_2) BK412 2; have hfz26_0 := blk_frozen BK412.out 0; have hfz26_1 := blk_frozen BK412.out 1; have hfz26_2 := blk_frozen BK412.out 2; have hcz27_0 := cl_ (v := .slice A1_0 l1_0.length c1_0) BK413 0; have hcz27_1 := cl_ (v := .slice A1_1 l1_1.length c1_1) BK413 1; have hcz27_2 := cl_ (v := .slice A1_2 l1_2.length c1_2) BK413 2; have hfz27_0 := blk_frozen BK413.out 0; have hfz27_1 := blk_frozen BK413.out 1; have hfz27_2 := blk_frozen BK413.out 2) | ((with_reducible refine gate_callee (f := 25) rfl ?_); refine gl_ 15 Tryz.func25 #[.slice A0_1 l0_1.length c0_1, .slice A1_1 l1_1.length c1_1] (h := ?_); (with_reducible refine (laws_eqValS.calls k _ _ l0_1 _ _ l1_1 true _ ?side1 ?side2 ?side3 ?side4 A5.out).mono ?_); (case side1 => exact sq_c (Kd.C_below HR0_1.out HB.out)); (case side2 => exact HC0_1.out); (case side3 => exact sq_c (Kd.C_below HR1_1.out HB.out)); (case side4 => exact HC1_1.out); rintro e w28 ⟨rfl, hb⟩; refine ⟨_, rfl, ?_⟩; replace BK412 := bb_ BK412 hb; replace BK413 := bb_ BK413 hb; replace HB := hb2_ HB hb GE412 GE413; (try clear hb); have hcz29_0 := cl_ (v := .slice A0_0 l0_0.length c0_0) BK412 0; have hcz29_1 := cl_ (v := .slice A0_1 l0_1.length c0_1) BK412 1; have hcz29_2 := cl_ (v := .slice A0_2 l0_2.length c0_2) BK412 2; have hfz29_0 := blk_frozen BK412.out 0; have hfz29_1 := blk_frozen BK412.out 1; have hfz29_2 := blk_frozen BK412.out 2; have hcz30_0 := cl_ (v := .slice A1_0 l1_0.length c1_0) BK413 0; have hcz30_1 := cl_ (v := .slice A1_1 l1_1.length c1_1) BK413 1; have hcz30_2 := cl_ (v := .slice A1_2 l1_2.length c1_2) BK413 2; have hfz30_0 := blk_frozen BK413.out 0; have hfz30_1 := blk_frozen BK413.out 1; have hfz30_2 := blk_frozen BK413.out 2) | ((with_reducible refine gate_callee (f := 26) rfl ?_); refine gl_ 21 Tryz.func26 #[.slice A0_2 l0_2.length c0_2, .slice A1_2 l1_2.length c1_2] (h := ?_); (with_reducible refine (laws_eqBoolS.calls k _ _ l0_2 _ _ l1_2 false _ ?side1 ?side2 ?side3 ?side4 A7.out).mono ?_); (case side1 => exact sq_c (Kd.C_below HR0_2.out HB.out)); (case side2 => exact HC0_2.out); (case side3 => exact sq_c (Kd.C_below HR1_2.out HB.out)); (case side4 => exact HC1_2.out); rintro e w' ⟨rfl, ⟨nd, rfl⟩⟩; refine ⟨_, rfl, ?_⟩))
    go_ret
    exact ⟨by first | rfl | (simp [errW_none, errW_some] <;> rfl) | (simp [*, errW_none, errW_some] <;> rfl), sq_below HB.out⟩
  ·
   replace c6 := Bool.eq_false_iff.mpr c6; subst c6; have H1 := ifn_ H
   clear H; have H := H1; clear H1; obtain rfl := Option.some.inj H
   go_enter Tryz.func10, Tryz.ntmps10
   go_wp2_with (first | ((with_reducible refine gate_dst (N := 2) rfl ?_); refine box_y 2 #[.slice A0_0 l0_0.length c0_0, .slice A0_1 l0_1.length c0_1, .slice A0_2 l0_2.length c0_2] 34 (h := ?_); intro gb412 hg w31 hbox hb; have n0_ := Aside0.mk (below_step (sq_below HB.out) hb); have n1_ := Aside0.mk (hbox); have n2_ := ge_ hg (below_size (sq_below HB.out)); have n3_ := ge_ hg (below_size (sq_below HB.out)); clear HB; have HB := n0_; have BK412 := n1_; have GW412 := n2_; have GE412 := n3_; clear n0_ n1_ n2_ n3_; clear hb hbox hg) | ((with_reducible refine gate_dst (N := 3) rfl ?_); refine box_y 3 #[.slice A1_0 l1_0.length c1_0, .slice A1_1 l1_1.length c1_1, .slice A1_2 l1_2.length c1_2] 34 (h := ?_); intro gb413 hg w32 hbox hb; have n0_ := Aside0.mk (blk_below (sq_blk BK412.out) hb); have n1_ := Aside0.mk (below_step (sq_below1 HB.out GE412.out) hb); have n2_ := Aside0.mk (hbox); have n3_ := ge_ hg (below_size (sq_below1 HB.out GE412.out)); have n4_ := ge_ hg (below_size (sq_below1 HB.out GE412.out)); have n5_ := nb_ hg BK412; have n6_ := Aside0.mk (Ne.symm n5_.out); clear BK412; clear HB; have BK412 := n0_; have HB := n1_; have BK413 := n2_; have GW413 := n3_; have GE413 := n4_; have NB412_413 := n5_; have NB413_412 := n6_; clear n0_ n1_ n2_ n3_ n4_ n5_ n6_; clear hb hbox hg; have hnb33 := NB412_413.out; have hnc33 := NB413_412.out; have hcz34_0 := cl_ (v := .slice A0_0 l0_0.length c0_0) BK412 0; have hcz34_1 := cl_ (v := .slice A0_1 l0_1.length c0_1) BK412 1; have hcz34_2 := cl_ (v := .slice A0_2 l0_2.length c0_2) BK412 2; have hfz34_0 := blk_frozen BK412.out 0; have hfz34_1 := blk_frozen BK412.out 1; have hfz34_2 := blk_frozen BK412.out 2; have hcz35_0 := cl_ (v := .slice A1_0 l1_0.length c1_0) BK413 0; have hcz35_1 := cl_ (v := .slice A1_1 l1_1.length c1_1) BK413 1; have hcz35_2 := cl_ (v := .slice A1_2 l1_2.length c1_2) BK413 2; have hfz35_0 := blk_frozen BK413.out 0; have hfz35_1 := blk_frozen BK413.out 1; have hfz35_2 := blk_frozen BK413.out 2) | ((with_reducible refine gate_callee (f := 24) rfl ?_); refine gl_ 9 Tryz.func24 #[.slice A0_0 l0_0.length c0_0, .slice A1_0 l1_0.length c1_0] (h := ?_); (with_reducible refine (laws_eqSymSS.calls k _ _ l0_0 _ _ l1_0 true _ ?side1 ?side2 ?side3 ?side4 A3.out).mono ?_); (case side1 => exact sq_c (Kd.C_below HR0_0.out HB.out)); (case side2 => exact HC0_0.out); (case side3 => exact sq_c (Kd.C_below HR1_0.out HB.out)); (case side4 => exact HC1_0.out); rintro e w36 ⟨rfl, hb⟩; refine ⟨_, rfl, ?_⟩; replace BK412 := bb_ BK412 hb; replace BK413 := bb_ BK413 hb; replace HB := hb2_ HB hb GE412 GE413; (try clear hb); have hcz37_0 := cl_ (v := .slice A0_0 l0_0.length c0_0) BK412 0; have hcz37_1 := cl_ (v := .slice A0_1 l0_1.length c0_1) BK412 1; have hcz37_2 := cl_ (v := .slice A0_2 l0_2.length c0_2) BK412 2; have hfz37_0 := blk_frozen BK412.out 0; have hfz37_1 := blk_frozen BK412.out 1; have hfz37_2 := blk_frozen BK412.out 2; have hcz38_0 := cl_ (v := .slice A1_0 l1_0.length c1_0) BK413 0; have hcz38_1 := cl_ (v := .slice A1_1 l1_1.length c1_1) BK413 1; have hcz38_2 := cl_ (v := .slice A1_2 l1_2.length c1_2) BK413 2; have hfz38_0 := blk_frozen BK413.out 0; have hfz38_1 := blk_frozen BK413.out 1; have hfz38_2 := blk_frozen BK413.out 2) | ((with_reducible refine gate_callee (f := 25) rfl ?_); refine gl_ 15 Tryz.func25 #[.slice A0_1 l0_1.length c0_1, .slice A1_1 l1_1.length c1_1] (h := ?_); (with_reducible refine (laws_eqValS.calls k _ _ l0_1 _ _ l1_1 false _ ?side1 ?side2 ?side3 ?side4 A5.out).mono ?_); (case side1 => exact sq_c (Kd.C_below HR0_1.out HB.out)); (case side2 => exact HC0_1.out); (case side3 => exact sq_c (Kd.C_below HR1_1.out HB.out)); (case side4 => exact HC1_1.out); rintro e w39 ⟨rfl, hb⟩; refine ⟨_, rfl, ?_⟩; replace HB := hb_ HB hb; (try clear hb)))
   go_ret
   exact ⟨by first | rfl | (simp [errW_none, errW_some] <;> rfl) | (simp [*, errW_none, errW_some] <;> rfl), sq_below HB.out⟩
 ·
  replace c4 := Bool.eq_false_iff.mpr c4; subst c4; have H1 := ifn_ H
  clear H; have H := H1; clear H1; obtain rfl := Option.some.inj H
  go_enter Tryz.func10, Tryz.ntmps10
  go_wp2_with (first | ((with_reducible refine gate_dst (N := 2) rfl ?_); refine box_y 2 #[.slice A0_0 l0_0.length c0_0, .slice A0_1 l0_1.length c0_1, .slice A0_2 l0_2.length c0_2] 34 (h := ?_); intro gb412 hg w40 hbox hb; have n0_ := Aside0.mk (below_step (sq_below HB.out) hb); have n1_ := Aside0.mk (hbox); have n2_ := ge_ hg (below_size (sq_below HB.out)); have n3_ := ge_ hg (below_size (sq_below HB.out)); clear HB; have HB := n0_; have BK412 := n1_; have GW412 := n2_; have GE412 := n3_; clear n0_ n1_ n2_ n3_; clear hb hbox hg) | ((with_reducible refine gate_dst (N := 3) rfl ?_); refine box_y 3 #[.slice A1_0 l1_0.length c1_0, .slice A1_1 l1_1.length c1_1, .slice A1_2 l1_2.length c1_2] 34 (h := ?_); intro gb413 hg w41 hbox hb; have n0_ := Aside0.mk (blk_below (sq_blk BK412.out) hb); have n1_ := Aside0.mk (below_step (sq_below1 HB.out GE412.out) hb); have n2_ := Aside0.mk (hbox); have n3_ := ge_ hg (below_size (sq_below1 HB.out GE412.out)); have n4_ := ge_ hg (below_size (sq_below1 HB.out GE412.out)); have n5_ := nb_ hg BK412; have n6_ := Aside0.mk (Ne.symm n5_.out); clear BK412; clear HB; have BK412 := n0_; have HB := n1_; have BK413 := n2_; have GW413 := n3_; have GE413 := n4_; have NB412_413 := n5_; have NB413_412 := n6_; clear n0_ n1_ n2_ n3_ n4_ n5_ n6_; clear hb hbox hg; have hnb42 := NB412_413.out; have hnc42 := NB413_412.out; have hcz43_0 := cl_ (v := .slice A0_0 l0_0.length c0_0) BK412 0; have hcz43_1 := cl_ (v := .slice A0_1 l0_1.length c0_1) BK412 1; have hcz43_2 := cl_ (v := .slice A0_2 l0_2.length c0_2) BK412 2; have hfz43_0 := blk_frozen BK412.out 0; have hfz43_1 := blk_frozen BK412.out 1; have hfz43_2 := blk_frozen BK412.out 2; have hcz44_0 := cl_ (v := .slice A1_0 l1_0.length c1_0) BK413 0; have hcz44_1 := cl_ (v := .slice A1_1 l1_1.length c1_1) BK413 1; have hcz44_2 := cl_ (v := .slice A1_2 l1_2.length c1_2) BK413 2; have hfz44_0 := blk_frozen BK413.out 0; have hfz44_1 := blk_frozen BK413.out 1; have hfz44_2 := blk_frozen BK413.out 2) | ((with_reducible refine gate_callee (f := 24) rfl ?_); refine gl_ 9 Tryz.func24 #[.slice A0_0 l0_0.length c0_0, .slice A1_0 l1_0.length c1_0] (h := ?_); (with_reducible refine (laws_eqSymSS.calls k _ _ l0_0 _ _ l1_0 false _ ?side1 ?side2 ?side3 ?side4 A3.out).mono ?_); (case side1 => exact sq_c (Kd.C_below HR0_0.out HB.out)); (case side2 => exact HC0_0.out); (case side3 => exact sq_c (Kd.C_below HR1_0.out HB.out)); (case side4 => exact HC1_0.out); rintro e w45 ⟨rfl, hb⟩; refine ⟨_, rfl, ?_⟩; replace HB := hb_ HB hb; (try clear hb)))
  go_ret
  exact ⟨by first | rfl | (simp [errW_none, errW_some] <;> rfl) | (simp [*, errW_none, errW_some] <;> rfl), sq_below HB.out⟩

end Go.Proofs.YtfeloencepgdlaaGreatDoor.Q
namespace Go.Proofs.YtfeloencepgdlaaGreatDoor.Q
open Go.RowKit Go.Proofs.YtfeloencepgdlaaGreatDoorW.PrintWords Go.Proofs.YtfeloencepgdlaaGreatDoorW.PrintLast Go.Proofs.YtfeloencepgdlaaGreatDoorW.PrintMore
attribute [local go_sem] max2_int min2_int max_two min_two max_three min_three max_four min_four   -- for this text's walks alone
set_option linter.unusedVariables false
set_option linter.unusedSimpArgs false

/-! ### laws_eqStringS: function 11 -/
def laws_eqStringS.l0 : Nat → List ByteArray → List ByteArray → Int → Option (Bool)
 | 0, _, _, _ => none
 | k + 1, x0, x1, x5 => if x5 < (x0.length : Int) then (if 0 ≤ x5 then (if x5 < (x1.length : Int) then (if (rdOf ByteArray.empty x0 x5).toList = (rdOf ByteArray.empty x1 x5).toList then (laws_eqStringS.l0 k x0 x1 (wrap64 (x5 + 1))) else (some false)) else (none)) else (none)) else (some true)
def laws_eqStringS.f (k : Nat) (l0 : List ByteArray) (l1 : List ByteArray) : Option (Bool) := if (l0.length : Int) = (l1.length : Int) then (laws_eqStringS.l0 k l0 l1 0) else (some false)
theorem laws_eqStringS.mono_l : ∀ k, (∀ y0 y1 y2, LeO (laws_eqStringS.l0 k y0 y1 y2) (laws_eqStringS.l0 (k + 1) y0 y1 y2))
 | 0 => fun _ _ _ r h => by simp [laws_eqStringS.l0] at h
 | k + 1 => by
  have ih0 := laws_eqStringS.mono_l k
  ·
   intro y0 y1 y2; unfold laws_eqStringS.l0
   repeat' first
   | (with_reducible exact ih0 _ _ _)
   | (with_reducible exact LeO.refl _)
   | (with_reducible exact LeO.none _)
   | (with_reducible refine LeO.ite ?_ ?_)
   | (with_reducible refine LeO.bind ?_ (fun _ => ?_))
   | exact ih0 _ _ _
   | exact LeO.none _
   | refine LeO.ite ?_ ?_
   | refine LeO.bind ?_ (fun _ => ?_)
theorem laws_eqStringS.mono : ∀ a0 a1 k, LeO (laws_eqStringS.f k a0 a1) (laws_eqStringS.f (k + 1) a0 a1) := by
 intro a0 a1 k; have ih0 := laws_eqStringS.mono_l k; unfold laws_eqStringS.f
 repeat' first
   | (with_reducible exact ih0 _ _ _)
   | (with_reducible exact LeO.refl _)
   | (with_reducible exact LeO.none _)
   | (with_reducible refine LeO.ite ?_ ?_)
   | (with_reducible refine LeO.bind ?_ (fun _ => ?_))
   | exact ih0 _ _ _
   | exact LeO.none _
   | refine LeO.ite ?_ ?_
   | refine LeO.bind ?_ (fun _ => ?_)
set_option maxHeartbeats 8000000 in
set_option maxRecDepth 100000 in
theorem laws_eqStringS.calls (k : Nat) (A0 : Option Addr) (c0 : Nat) (l0 : List ByteArray) (A1 : Option Addr) (c1 : Nat) (l1 : List ByteArray) (r : Bool) (w : World) (hr0 : Kd.C Kd.string w A0 l0.length l0) (hc0 : l0.length ≤ c0) (hr1 : Kd.C Kd.string w A1 l1.length l1) (hc1 : l1.length ≤ c1) (h : laws_eqStringS.f k l0 l1 = some r) :
  Calls Tryz.prog 11 #[.slice A0 l0.length c0, .slice A1 l1.length c1] w fun e w' => e = .returned (.bool r) ∧ Drawn0 w w' := by
 have HR0 := Aside0.mk hr0; have HC0 := Aside0.mk hc0; clear hr0 hc0; have HR1 := Aside0.mk hr1; have HC1 := Aside0.mk hc1; clear hr1 hc1; have H : (if (l0.length : Int) = (l1.length : Int) then (laws_eqStringS.l0 k l0 l1 0) else (some false)) = some r := h; clear h
 by_cases c3 : (l0.length : Int) = (l1.length : Int)
 ·
  rw [if_pos c3] at H; have c3b0 : ((l0.length : Int) == (l1.length : Int)) = true := beq_iff_eq.mpr c3; have c3b1 : ((l0.length : Int) != (l1.length : Int)) = false := bne_eq_false_iff_eq.mpr c3; have c3b2 : (l0.length == l1.length) = true := by first | simpa using c3 | (simp at c3 ⊢; omega)
  clear c3; have H' := Aside0.mk H; clear H
  go_enter Tryz.func11, Tryz.ntmps11
  go_wp2
  repeat (go_quiet (fail); try go_wp2)
  go_loopg [5] k (fun kq v5 w' => ∃ (x5_1 : Int), v5 = .int .i64 x5_1 ∧ Aside0 (laws_eqStringS.l0 kq l0 l1 x5_1 = some r) ∧ Aside0 (kq ≤ k) ∧ Drawn0 w w')
  case atStart => exact ⟨(0), (by first | rfl | (simp; done) | (simp [*]; done)), H', ⟨Nat.le_refl _⟩, by repeat (first | exact Drawn0.refl _ | apply Drawn0.step)⟩
  case round =>
   clear H'
   try clear c1
   try clear p2
   try clear c3
   try clear c3b0
   try clear c3b1
   try clear c3b2
   obtain ⟨x5_1, rfl, HA, HK1, ⟨m1, rfl⟩⟩ := hrel; cases gk with
   | zero => exact absurd HA.out (by simp [laws_eqStringS.l0])
   | succ k1 =>
    have H := HA.out; clear HA; simp only [laws_eqStringS.l0] at H
    by_cases c4 : x5_1 < (l0.length : Int)
    ·
     rw [if_pos c4] at H; have c4b0 : decide (x5_1 < (l0.length : Int)) = true := decide_eq_true c4; clear c4
     by_cases c5 : 0 ≤ x5_1
     ·
      rw [if_pos c5] at H; have c5b0 : decide (0 ≤ x5_1) = true := decide_eq_true c5; clear c5
      by_cases c6 : x5_1 < (l1.length : Int)
      ·
       rw [if_pos c6] at H; have c6b0 : decide (x5_1 < (l1.length : Int)) = true := decide_eq_true c6; clear c6
       by_cases c7 : (rdOf ByteArray.empty l0 x5_1).toList = (rdOf ByteArray.empty l1 x5_1).toList
       ·
        rw [if_pos c7] at H; have c7b0 : ((rdOf ByteArray.empty l0 x5_1).toList == (rdOf ByteArray.empty l1 x5_1).toList) = true := beq_iff_eq.mpr c7; have c7b1 : ((rdOf ByteArray.empty l0 x5_1).toList != (rdOf ByteArray.empty l1 x5_1).toList) = false := bne_eq_false_iff_eq.mpr c7; clear c7; have H' := Aside0.mk H; clear H; have p417 : 0 ≤ (x5_1 : Int) := sq_dec; have q417 : x5_1 < (l0.length : Int) := sq_dec; obtain ⟨ad417, e417, hx417_0⟩ := Kd.at_string HR0.out x5_1 p417 q417; cases e417; replace p417 := eq_true p417; replace q417 := eq_true q417; have p418 : 0 ≤ (x5_1 : Int) := sq_dec; have q418 : x5_1 < (l1.length : Int) := sq_dec; obtain ⟨ad418, e418, hx418_0⟩ := Kd.at_string HR1.out x5_1 p418 q418; cases e418; replace p418 := eq_true p418; replace q418 := eq_true q418
        go_wp2
        repeat (go_quiet (fail); try go_wp2)
        go_roundg k1
        case measure => have := HK1.out; omega
        case rel => exact ⟨(wrap64 (x5_1 + 1)), (by first | rfl | (simp; done) | (simp [*]; done)), H', ⟨by have := HK1.out; omega⟩, by repeat (first | exact Drawn0.refl _ | apply Drawn0.step)⟩
       ·
        rw [if_neg c7] at H; have c7b0 : ((rdOf ByteArray.empty l0 x5_1).toList == (rdOf ByteArray.empty l1 x5_1).toList) = false := beq_eq_false_iff_ne.mpr c7; have c7b1 : ((rdOf ByteArray.empty l0 x5_1).toList != (rdOf ByteArray.empty l1 x5_1).toList) = true := bne_iff_ne.mpr c7; obtain rfl := Option.some.inj H; have p417 : 0 ≤ (x5_1 : Int) := sq_dec; have q417 : x5_1 < (l0.length : Int) := sq_dec; obtain ⟨ad417, e417, hx417_0⟩ := Kd.at_string HR0.out x5_1 p417 q417; cases e417; replace p417 := eq_true p417; replace q417 := eq_true q417; have p418 : 0 ≤ (x5_1 : Int) := sq_dec; have q418 : x5_1 < (l1.length : Int) := sq_dec; obtain ⟨ad418, e418, hx418_0⟩ := Kd.at_string HR1.out x5_1 p418 q418; cases e418; replace p418 := eq_true p418; replace q418 := eq_true q418
        go_wp2
        repeat (go_quiet (fail); try go_wp2)
        go_ret
        exact ⟨by first | rfl | (simp; done) | (simp [*]; done), by repeat (first | exact Drawn0.refl _ | apply Drawn0.step)⟩
      ·
       rw [if_neg c6] at H; exact absurd H (by simp)
     ·
      rw [if_neg c5] at H; exact absurd H (by simp)
    ·
     rw [if_neg c4] at H; have c4b0 : decide (x5_1 < (l0.length : Int)) = false := decide_eq_false c4; clear c4; obtain rfl := Option.some.inj H
     go_wp2
     repeat (go_quiet (fail); try go_wp2)
     go_ret
     exact ⟨by first | rfl | (simp; done) | (simp [*]; done), by repeat (first | exact Drawn0.refl _ | apply Drawn0.step)⟩
 ·
  rw [if_neg c3] at H; have c3b0 : ((l0.length : Int) == (l1.length : Int)) = false := beq_eq_false_iff_ne.mpr c3; have c3b1 : ((l0.length : Int) != (l1.length : Int)) = true := bne_iff_ne.mpr c3; have c3b2 : (l0.length == l1.length) = false := by first | simpa using c3 | (simp at c3 ⊢; omega)
  obtain rfl := Option.some.inj H
  go_enter Tryz.func11, Tryz.ntmps11
  go_wp2
  repeat (go_quiet (fail); try go_wp2)
  go_ret
  exact ⟨by first | rfl | (simp; done) | (simp [*]; done), by repeat (first | exact Drawn0.refl _ | apply Drawn0.step)⟩

end Go.Proofs.YtfeloencepgdlaaGreatDoor.Q
namespace Go.Proofs.YtfeloencepgdlaaGreatDoor.Q
open Go.RowKit Go.Proofs.YtfeloencepgdlaaGreatDoorW.PrintWords Go.Proofs.YtfeloencepgdlaaGreatDoorW.PrintLast Go.Proofs.YtfeloencepgdlaaGreatDoorW.PrintMore
attribute [local go_sem] max2_int min2_int max_two min_two max_three min_three max_four min_four   -- for this text's walks alone
set_option linter.unusedVariables false
set_option linter.unusedSimpArgs false

/-! ### laws_FnExactSegText: function 3 -/
def laws_FnExactSegText.f (k : Nat) (a0 : Int) (a1 : Int) (l2_0 : List (List (S93))) (l2_1 : List (S74)) (l2_2 : List Bool) (l3 : List ByteArray) : Option (Bool) := (laws_szSeg.f k l2_0 l2_1 l2_2 1048576).bind fun t420 => (if t420 < 0 then (some true) else ((laws_szStringS.f k l3 t420).bind fun t421 => (if t421 < 0 then (some true) else ((laws_toSeg.f k l2_0 l2_1 l2_2).bind fun bt422 => ((laws_toStringS.f k l3).bind fun t431 => ((spec_SegText.f k a0 a1 bt422.1 bt422.2.1 bt422.2.2 t431).bind fun t434 => ((laws_toSeg.f k l2_0 l2_1 l2_2).bind fun bt435 => ((laws_toStringS.f k l3).bind fun t445 => ((impl_SegText.f k a0 a1 bt435.1 bt435.2.1 bt435.2.2 t445).bind fun t448 => (if t448.toList = t434.toList then ((laws_toSeg.f k l2_0 l2_1 l2_2).bind fun bt449 => ((laws_eqSeg.f k bt435.1 bt435.2.1 bt435.2.2 bt449.1 bt449.2.1 bt449.2.2).bind fun t458 => (if t458 = true then ((laws_toStringS.f k l3).bind fun t459 => ((laws_eqStringS.f k t445 t459).bind fun t462 => (if t462 = true then (some true) else (some false)))) else (some false)))) else (some false)))))))))))
theorem laws_FnExactSegText.mono : ∀ a0 a1 a2 a3 a4 a5 k, LeO (laws_FnExactSegText.f k a0 a1 a2 a3 a4 a5) (laws_FnExactSegText.f (k + 1) a0 a1 a2 a3 a4 a5) := by
 intro a0 a1 a2 a3 a4 a5 k; unfold laws_FnExactSegText.f
 repeat' first
   | (with_reducible exact impl_SegText.mono _ _ _ _ _ _ _)
   | (with_reducible exact laws_eqSeg.mono _ _ _ _ _ _ _)
   | (with_reducible exact laws_eqStringS.mono _ _ _)
   | (with_reducible exact laws_szSeg.mono _ _ _ _ _)
   | (with_reducible exact laws_szStringS.mono _ _ _)
   | (with_reducible exact laws_toSeg.mono _ _ _ _)
   | (with_reducible exact laws_toStringS.mono _ _)
   | (with_reducible exact spec_SegText.mono _ _ _ _ _ _ _)
   | (with_reducible exact LeO.refl _)
   | (with_reducible exact LeO.none _)
   | (with_reducible refine LeO.ite ?_ ?_)
   | (with_reducible refine LeO.bind ?_ (fun _ => ?_))
   | exact impl_SegText.mono _ _ _ _ _ _ _
   | exact laws_eqSeg.mono _ _ _ _ _ _ _
   | exact laws_eqStringS.mono _ _ _
   | exact laws_szSeg.mono _ _ _ _ _
   | exact laws_szStringS.mono _ _ _
   | exact laws_toSeg.mono _ _ _ _
   | exact laws_toStringS.mono _ _
   | exact spec_SegText.mono _ _ _ _ _ _ _
   | exact LeO.none _
   | refine LeO.ite ?_ ?_
   | refine LeO.bind ?_ (fun _ => ?_)
set_option maxHeartbeats 8000000 in
set_option maxRecDepth 100000 in
theorem laws_FnExactSegText.calls (k : Nat) (a0 : Int) (a1 : Int) (A2_0 : Option Addr) (c2_0 : Nat) (l2_0 : List (List (S93))) (A2_1 : Option Addr) (c2_1 : Nat) (l2_1 : List (S74)) (A2_2 : Option Addr) (c2_2 : Nat) (l2_2 : List Bool) (A3 : Option Addr) (c3 : Nat) (l3 : List ByteArray) (r : Bool) (w : World) (hG0 : GL0 w) (hG1 : GL1 w) (hG2 : GL2 w) (hG3 : GL3 w) (hG4 : GL4 w) (hr2_0 : Kd.C (Kd.slice 93 k93) w A2_0 l2_0.length l2_0) (hc2_0 : l2_0.length ≤ c2_0) (hr2_1 : Kd.C k74 w A2_1 l2_1.length l2_1) (hc2_1 : l2_1.length ≤ c2_1) (hr2_2 : Kd.C Kd.bool w A2_2 l2_2.length l2_2) (hc2_2 : l2_2.length ≤ c2_2) (hr3 : Kd.C Kd.string w A3 l3.length l3) (hc3 : l3.length ≤ c3) (h : laws_FnExactSegText.f k a0 a1 l2_0 l2_1 l2_2 l3 = some r) (hr_ : r = true) :
  Calls Tryz.prog 3 #[.int .i64 a0, .int .i64 a1, .agg #[.slice A2_0 l2_0.length c2_0, .slice A2_1 l2_1.length c2_1, .slice A2_2 l2_2.length c2_2], .slice A3 l3.length c3] w fun e w' => e = .returned (.bool r) ∧ Below w.heap.size w w' := by
 have hu26 := Tryz.underlying26; have hu34 := Tryz.underlying34; have HR2_0 := Aside0.mk hr2_0; have HC2_0 := Aside0.mk hc2_0; clear hr2_0 hc2_0; have HR2_1 := Aside0.mk hr2_1; have HC2_1 := Aside0.mk hc2_1; clear hr2_1 hc2_1; have HR2_2 := Aside0.mk hr2_2; have HC2_2 := Aside0.mk hc2_2; clear hr2_2 hc2_2; have HR3 := Aside0.mk hr3; have HC3 := Aside0.mk hc3; clear hr3 hc3; have HB := Aside0.mk (Below.refl w.heap.size w); have HG0 := Aside0.mk hG0; clear hG0; have HG1 := Aside0.mk hG1; clear hG1; have HG2 := Aside0.mk hG2; clear hG2; have HG3 := Aside0.mk hG3; clear hG3; have HG4 := Aside0.mk hG4; clear hG4; have H : ((laws_szSeg.f k l2_0 l2_1 l2_2 1048576).bind fun t420 => (if t420 < 0 then (some true) else ((laws_szStringS.f k l3 t420).bind fun t421 => (if t421 < 0 then (some true) else ((laws_toSeg.f k l2_0 l2_1 l2_2).bind fun bt422 => ((laws_toStringS.f k l3).bind fun t431 => ((spec_SegText.f k a0 a1 bt422.1 bt422.2.1 bt422.2.2 t431).bind fun t434 => ((laws_toSeg.f k l2_0 l2_1 l2_2).bind fun bt435 => ((laws_toStringS.f k l3).bind fun t445 => ((impl_SegText.f k a0 a1 bt435.1 bt435.2.1 bt435.2.2 t445).bind fun t448 => (if t448.toList = t434.toList then ((laws_toSeg.f k l2_0 l2_1 l2_2).bind fun bt449 => ((laws_eqSeg.f k bt435.1 bt435.2.1 bt435.2.2 bt449.1 bt449.2.1 bt449.2.2).bind fun t458 => (if t458 = true then ((laws_toStringS.f k l3).bind fun t459 => ((laws_eqStringS.f k t445 t459).bind fun t462 => (if t462 = true then (some true) else (some false)))) else (some false)))) else (some false)))))))))))) = some r := h; clear h; replace H := Option.bind_eq_some_iff.mp H; obtain ⟨t420, A50, H⟩ := H; (try dsimp only at H); have A5 := Aside0.mk A50; clear A50
 by_cases c6 : t420 < 0
 ·
  rw [if_pos c6] at H; have c6b0 : decide (t420 < 0) = true := decide_eq_true c6; clear c6; obtain rfl := Option.some.inj H
  go_enter Tryz.func3, Tryz.ntmps3
  go_wp2_with (first | ((with_reducible refine gate_dst (N := 6) rfl ?_); refine box_y 6 #[.slice A2_0 l2_0.length c2_0, .slice A2_1 l2_1.length c2_1, .slice A2_2 l2_2.length c2_2] 26 (h := ?_); intro gb419 hg w7 hbox hb; have n0_ := Aside0.mk (below_step (sq_below HB.out) hb); have n1_ := Aside0.mk (hbox); have n2_ := ge_ hg (below_size (sq_below HB.out)); have n3_ := ge_ hg (below_size (sq_below HB.out)); clear HB; have HB := n0_; have BK419 := n1_; have GW419 := n2_; have GE419 := n3_; clear n0_ n1_ n2_ n3_; clear hb hbox hg; have hcz8_0 := cl_ (v := .slice A2_0 l2_0.length c2_0) BK419 0; have hcz8_1 := cl_ (v := .slice A2_1 l2_1.length c2_1) BK419 1; have hcz8_2 := cl_ (v := .slice A2_2 l2_2.length c2_2) BK419 2; have hfz8_0 := blk_frozen BK419.out 0; have hfz8_1 := blk_frozen BK419.out 1; have hfz8_2 := blk_frozen BK419.out 2) | ((with_reducible refine gate_callee (f := 4) rfl ?_); refine gl_ 16 Tryz.func4 #[.agg #[.slice A2_0 l2_0.length c2_0, .slice A2_1 l2_1.length c2_1, .slice A2_2 l2_2.length c2_2], .int .i64 1048576] (h := ?_); (with_reducible refine (laws_szSeg.calls k _ _ l2_0 _ _ l2_1 _ _ l2_2 1048576 t420 _ ?side1 ?side2 ?side3 ?side4 ?side5 ?side6 A5.out).mono ?_); (case side1 => exact sq_c (Kd.C_below HR2_0.out HB.out)); (case side2 => exact HC2_0.out); (case side3 => exact sq_c (Kd.C_below HR2_1.out HB.out)); (case side4 => exact HC2_1.out); (case side5 => exact sq_c (Kd.C_below HR2_2.out HB.out)); (case side6 => exact HC2_2.out); rintro e w9 ⟨rfl, hb⟩; refine ⟨_, rfl, ?_⟩; replace HB := hb_ HB hb; (try clear hb)))
  go_ret
  exact ⟨by first | rfl | (simp [errW_none, errW_some] <;> rfl) | (simp [*, errW_none, errW_some] <;> rfl), sq_below HB.out⟩
 ·
  rw [if_neg c6] at H; have c6b0 : decide (t420 < 0) = false := decide_eq_false c6; clear c6; replace H := Option.bind_eq_some_iff.mp H; obtain ⟨t421, A100, H⟩ := H; (try dsimp only at H); have A10 := Aside0.mk A100; clear A100
  by_cases c11 : t421 < 0
  ·
   rw [if_pos c11] at H; have c11b0 : decide (t421 < 0) = true := decide_eq_true c11; clear c11; obtain rfl := Option.some.inj H
   go_enter Tryz.func3, Tryz.ntmps3
   go_wp2_with (first | ((with_reducible refine gate_dst (N := 6) rfl ?_); refine box_y 6 #[.slice A2_0 l2_0.length c2_0, .slice A2_1 l2_1.length c2_1, .slice A2_2 l2_2.length c2_2] 26 (h := ?_); intro gb419 hg w12 hbox hb; have n0_ := Aside0.mk (below_step (sq_below HB.out) hb); have n1_ := Aside0.mk (hbox); have n2_ := ge_ hg (below_size (sq_below HB.out)); have n3_ := ge_ hg (below_size (sq_below HB.out)); clear HB; have HB := n0_; have BK419 := n1_; have GW419 := n2_; have GE419 := n3_; clear n0_ n1_ n2_ n3_; clear hb hbox hg; have hcz13_0 := cl_ (v := .slice A2_0 l2_0.length c2_0) BK419 0; have hcz13_1 := cl_ (v := .slice A2_1 l2_1.length c2_1) BK419 1; have hcz13_2 := cl_ (v := .slice A2_2 l2_2.length c2_2) BK419 2; have hfz13_0 := blk_frozen BK419.out 0; have hfz13_1 := blk_frozen BK419.out 1; have hfz13_2 := blk_frozen BK419.out 2) | ((with_reducible refine gate_callee (f := 4) rfl ?_); refine gl_ 16 Tryz.func4 #[.agg #[.slice A2_0 l2_0.length c2_0, .slice A2_1 l2_1.length c2_1, .slice A2_2 l2_2.length c2_2], .int .i64 1048576] (h := ?_); (with_reducible refine (laws_szSeg.calls k _ _ l2_0 _ _ l2_1 _ _ l2_2 1048576 t420 _ ?side1 ?side2 ?side3 ?side4 ?side5 ?side6 A5.out).mono ?_); (case side1 => exact sq_c (Kd.C_below HR2_0.out HB.out)); (case side2 => exact HC2_0.out); (case side3 => exact sq_c (Kd.C_below HR2_1.out HB.out)); (case side4 => exact HC2_1.out); (case side5 => exact sq_c (Kd.C_below HR2_2.out HB.out)); (case side6 => exact HC2_2.out); rintro e w14 ⟨rfl, hb⟩; refine ⟨_, rfl, ?_⟩; replace HB := hb_ HB hb; (try clear hb)) | ((with_reducible refine gate_callee (f := 5) rfl ?_); refine gl_ 21 Tryz.func5 #[.slice A3 l3.length c3, .int .i64 t420] (h := ?_); (with_reducible refine (laws_szStringS.calls k _ _ l3 t420 t421 _ ?side1 ?side2 A10.out).mono ?_); (case side1 => exact sq_c (Kd.C_below HR3.out HB.out)); (case side2 => exact HC3.out); rintro e w' ⟨rfl, ⟨nd, rfl⟩⟩; refine ⟨_, rfl, ?_⟩))
   go_ret
   exact ⟨by first | rfl | (simp [errW_none, errW_some] <;> rfl) | (simp [*, errW_none, errW_some] <;> rfl), sq_below HB.out⟩
  ·
   rw [if_neg c11] at H; have c11b0 : decide (t421 < 0) = false := decide_eq_false c11; clear c11; replace H := Option.bind_eq_some_iff.mp H; obtain ⟨⟨t422, t425, t428⟩, A150, H⟩ := H; (try dsimp only at H); have A15 := Aside0.mk A150; clear A150; replace H := Option.bind_eq_some_iff.mp H; obtain ⟨t431, A160, H⟩ := H; (try dsimp only at H); have A16 := Aside0.mk A160; clear A160; replace H := Option.bind_eq_some_iff.mp H; obtain ⟨t434, A170, H⟩ := H; (try dsimp only at H); have A17 := Aside0.mk A170; clear A170; replace H := Option.bind_eq_some_iff.mp H; obtain ⟨⟨t435, t438, t441⟩, A180, H⟩ := H; (try dsimp only at H); have A18 := Aside0.mk A180; clear A180; replace H := Option.bind_eq_some_iff.mp H; obtain ⟨t445, A190, H⟩ := H; (try dsimp only at H); have A19 := Aside0.mk A190; clear A190; replace H := Option.bind_eq_some_iff.mp H; obtain ⟨t448, A200, H⟩ := H; (try dsimp only at H); have A20 := Aside0.mk A200; clear A200
   by_cases c21 : t448.toList = t434.toList
   ·
    rw [if_pos c21] at H; have c21b0 : (t448.toList == t434.toList) = true := beq_iff_eq.mpr c21; have c21b1 : (t448.toList != t434.toList) = false := bne_eq_false_iff_eq.mpr c21; clear c21; replace H := Option.bind_eq_some_iff.mp H; obtain ⟨⟨t449, t452, t455⟩, A220, H⟩ := H; (try dsimp only at H); have A22 := Aside0.mk A220; clear A220; replace H := Option.bind_eq_some_iff.mp H; obtain ⟨t458, A230, H⟩ := H; (try dsimp only at H); have A23 := Aside0.mk A230; clear A230
    by_cases c24 : t458 = true
    ·
     subst c24; have H1 := ifp_ H
     clear H; have H := H1; clear H1; replace H := Option.bind_eq_some_iff.mp H; obtain ⟨t459, A250, H⟩ := H; (try dsimp only at H); have A25 := Aside0.mk A250; clear A250; replace H := Option.bind_eq_some_iff.mp H; obtain ⟨t462, A260, H⟩ := H; (try dsimp only at H); have A26 := Aside0.mk A260; clear A260
     by_cases c27 : t462 = true
     ·
      subst c27; have H1 := ifp_ H
      clear H; have H := H1; clear H1; obtain rfl := Option.some.inj H
      go_enter Tryz.func3, Tryz.ntmps3
      try go_wp2_with (first | ((with_reducible refine gate_dst (N := 6) rfl ?_); refine box_y 6 #[.slice A2_0 l2_0.length c2_0, .slice A2_1 l2_1.length c2_1, .slice A2_2 l2_2.length c2_2] 26 (h := ?_); intro gb419 hg w28 hbox hb; have n0_ := Aside0.mk (below_step (sq_below HB.out) hb); have n1_ := Aside0.mk (hbox); have n2_ := ge_ hg (below_size (sq_below HB.out)); have n3_ := ge_ hg (below_size (sq_below HB.out)); clear HB; have HB := n0_; have BK419 := n1_; have GW419 := n2_; have GE419 := n3_; clear n0_ n1_ n2_ n3_; clear hb hbox hg; have hcz29_0 := cl_ (v := .slice A2_0 l2_0.length c2_0) BK419 0; have hcz29_1 := cl_ (v := .slice A2_1 l2_1.length c2_1) BK419 1; have hcz29_2 := cl_ (v := .slice A2_2 l2_2.length c2_2) BK419 2; have hfz29_0 := blk_frozen BK419.out 0; have hfz29_1 := blk_frozen BK419.out 1; have hfz29_2 := blk_frozen BK419.out 2) | ((with_reducible refine gate_callee (f := 4) rfl ?_); refine gl_ 16 Tryz.func4 #[.agg #[.slice A2_0 l2_0.length c2_0, .slice A2_1 l2_1.length c2_1, .slice A2_2 l2_2.length c2_2], .int .i64 1048576] (h := ?_); (with_reducible refine (laws_szSeg.calls k _ _ l2_0 _ _ l2_1 _ _ l2_2 1048576 t420 _ ?side1 ?side2 ?side3 ?side4 ?side5 ?side6 A5.out).mono ?_); (case side1 => exact sq_c (Kd.C_below HR2_0.out HB.out)); (case side2 => exact HC2_0.out); (case side3 => exact sq_c (Kd.C_below HR2_1.out HB.out)); (case side4 => exact HC2_1.out); (case side5 => exact sq_c (Kd.C_below HR2_2.out HB.out)); (case side6 => exact HC2_2.out); rintro e w30 ⟨rfl, hb⟩; refine ⟨_, rfl, ?_⟩; replace BK419 := bb_ BK419 hb; replace HB := hb1_ HB hb GE419; (try clear hb)) | ((with_reducible refine gate_callee (f := 5) rfl ?_); refine gl_ 21 Tryz.func5 #[.slice A3 l3.length c3, .int .i64 t420] (h := ?_); (with_reducible refine (laws_szStringS.calls k _ _ l3 t420 t421 _ ?side1 ?side2 A10.out).mono ?_); (case side1 => exact sq_c (Kd.C_below HR3.out HB.out)); (case side2 => exact HC3.out); rintro e w' ⟨rfl, ⟨nd, rfl⟩⟩; refine ⟨_, rfl, ?_⟩; (try (rw [drewN_self w30]; generalize hq_ : World.drewN w30 _ = w30; replace BK419 := bq_ hq_ BK419; replace HB := hq1_ hq_ HB GE419; clear hq_)); have hcz31_0 := cl_ (v := .slice A2_0 l2_0.length c2_0) BK419 0; have hcz31_1 := cl_ (v := .slice A2_1 l2_1.length c2_1) BK419 1; have hcz31_2 := cl_ (v := .slice A2_2 l2_2.length c2_2) BK419 2; have hfz31_0 := blk_frozen BK419.out 0; have hfz31_1 := blk_frozen BK419.out 1; have hfz31_2 := blk_frozen BK419.out 2) | ((with_reducible refine gate_callee (f := 7) rfl ?_); refine gl_ 27 Tryz.func7 #[.agg #[.slice A2_0 l2_0.length c2_0, .slice A2_1 l2_1.length c2_1, .slice A2_2 l2_2.length c2_2]] (h := ?_); (with_reducible refine (laws_toSeg.calls k _ _ l2_0 _ _ l2_1 _ _ l2_2 t422 t425 t428 _ ?side1 ?side2 ?side3 ?side4 ?side5 ?side6 A15.out).mono ?_); (case side1 => exact sq_c (Kd.C_below HR2_0.out HB.out)); (case side2 => exact HC2_0.out); (case side3 => exact sq_c (Kd.C_below HR2_1.out HB.out)); (case side4 => exact HC2_1.out); (case side5 => exact sq_c (Kd.C_below HR2_2.out HB.out)); (case side6 => exact HC2_2.out); rintro e w32 ⟨v423, v426, v429, rfl, ho0, ho1, ho2, hb⟩; refine ⟨_, rfl, ?_⟩; have n0_ := Aside0.mk (Kd.S_lower ho0 (below_size (sq_below1 HB.out GE419.out))); have n1_ := Aside0.mk (Kd.R_lower ho1 (below_size (sq_below1 HB.out GE419.out))); have n2_ := Aside0.mk (Kd.R_lower ho2 (below_size (sq_below1 HB.out GE419.out))); have n3_ := Aside0.mk (blk_below (sq_blk BK419.out) hb); have n4_ := Aside0.mk (below_step (sq_below1 HB.out GE419.out) hb); clear BK419; clear HB; have HO424 := n0_; have HO427 := n1_; have HO430 := n2_; have BK419 := n3_; have HB := n4_; clear n0_ n1_ n2_ n3_ n4_; (try clear hb); (try clear ho0); (try clear ho1); (try clear ho2)) | ((with_reducible refine gate_callee (f := 8) rfl ?_); refine gl_ 29 Tryz.func8 #[.slice A3 l3.length c3] (h := ?_); (with_reducible refine (laws_toStringS.calls k _ _ l3 t431 _ ?side1 ?side2 A16.out).mono ?_); (case side1 => exact sq_c (Kd.C_below HR3.out HB.out)); (case side2 => exact HC3.out); rintro e w33 ⟨v432, rfl, ho0, hb⟩; refine ⟨_, rfl, ?_⟩; have n0_ := Aside0.mk (Kd.S_below (by (with_reducible repeat (first | apply Kd.S_alloc | apply Kd.S_drewN | apply Kd.S_drew)); exact HO424.out) hb); have n1_ := Aside0.mk (Kd.R_below (sq_row HO427.out) hb); have n2_ := Aside0.mk (Kd.R_below (sq_row HO430.out) hb); have n3_ := Aside0.mk (Kd.R_lower ho0 (below_size (sq_below1 HB.out GE419.out))); have n4_ := Aside0.mk (blk_below (sq_blk BK419.out) hb); have n5_ := Aside0.mk (below_step (sq_below1 HB.out GE419.out) hb); clear HO424; clear HO427; clear HO430; clear BK419; clear HB; have HO424 := n0_; have HO427 := n1_; have HO430 := n2_; have HO433 := n3_; have BK419 := n4_; have HB := n5_; clear n0_ n1_ n2_ n3_ n4_ n5_; (try clear hb); (try clear ho0); obtain ⟨Ao34, co34, eo34⟩ := Kd.S_slice HO424.out; subst eo34; obtain ⟨Ao35, co35, eo35⟩ := Kd.R_slice HO427.out; subst eo35; obtain ⟨Ao36, co36, eo36⟩ := Kd.R_slice HO430.out; subst eo36; obtain ⟨Ao37, co37, eo37⟩ := Kd.R_slice HO433.out; subst eo37) | ((with_reducible refine gate_callee (f := 6) rfl ?_); refine gl_ 30 Tryz.func6 #[.int .i64 a0, .int .i64 a1, .agg #[.slice Ao34 t422.length co34, .slice Ao35 t425.length co35, .slice Ao36 t428.length co36], .slice Ao37 t431.length co37] (h := ?_); (with_reducible refine (spec_SegText.calls k a0 a1 _ _ t422 _ _ t425 _ _ t428 _ _ t431 t434 _ ?side1 ?side2 ?side3 ?side4 ?side5 ?side6 ?side7 ?side8 A17.out).mono ?_); (case side1 => exact sq_c ((Kd.S_reads' HO424.out).2.2)); (case side2 => exact (Kd.S_reads' HO424.out).2.1); (case side3 => exact sq_c ((Kd.R_reads' HO427.out).2.2)); (case side4 => exact (Kd.R_reads' HO427.out).2.1); (case side5 => exact sq_c ((Kd.R_reads' HO430.out).2.2)); (case side6 => exact (Kd.R_reads' HO430.out).2.1); (case side7 => exact sq_c ((Kd.R_reads' HO433.out).2.2)); (case side8 => exact (Kd.R_reads' HO433.out).2.1); rintro e w38 ⟨rfl, hb⟩; refine ⟨_, rfl, ?_⟩; replace HO424 := Aside0.mk (Kd.S_below (by (with_reducible repeat (first | apply Kd.S_alloc | apply Kd.S_drewN | apply Kd.S_drew)); exact HO424.out) hb); replace HO427 := Aside0.mk (Kd.R_below (sq_row HO427.out) hb); replace HO430 := Aside0.mk (Kd.R_below (sq_row HO430.out) hb); replace HO433 := Aside0.mk (Kd.R_below (sq_row HO433.out) hb); replace BK419 := bb_ BK419 hb; replace HB := hb1_ HB hb GE419; (try clear hb); have hcz39_0 := cl_ (v := .slice A2_0 l2_0.length c2_0) BK419 0; have hcz39_1 := cl_ (v := .slice A2_1 l2_1.length c2_1) BK419 1; have hcz39_2 := cl_ (v := .slice A2_2 l2_2.length c2_2) BK419 2; have hfz39_0 := blk_frozen BK419.out 0; have hfz39_1 := blk_frozen BK419.out 1; have hfz39_2 := blk_frozen BK419.out 2) | ((with_reducible refine gate_callee (f := 7) rfl ?_); refine gl_ 32 Tryz.func7 #[.agg #[.slice A2_0 l2_0.length c2_0, .slice A2_1 l2_1.length c2_1, .slice A2_2 l2_2.length c2_2]] (h := ?_); (with_reducible refine (laws_toSeg.calls k _ _ l2_0 _ _ l2_1 _ _ l2_2 t435 t438 t441 _ ?side1 ?side2 ?side3 ?side4 ?side5 ?side6 A18.out).mono ?_); (case side1 => exact sq_c (Kd.C_below HR2_0.out HB.out)); (case side2 => exact HC2_0.out); (case side3 => exact sq_c (Kd.C_below HR2_1.out HB.out)); (case side4 => exact HC2_1.out); (case side5 => exact sq_c (Kd.C_below HR2_2.out HB.out)); (case side6 => exact HC2_2.out); rintro e w40 ⟨v436, v439, v442, rfl, ho0, ho1, ho2, hb⟩; refine ⟨_, rfl, ?_⟩; have n0_ := Aside0.mk (Kd.S_elder' (by (with_reducible repeat (first | apply Kd.S_alloc | apply Kd.S_drewN | apply Kd.S_drew)); exact HO424.out) (Kd.S_base ho0) hb); have n1_ := Aside0.mk (Kd.R_elder' (sq_row HO427.out) (Kd.R_base ho1) hb); have n2_ := Aside0.mk (Kd.R_elder' (sq_row HO430.out) (Kd.R_base ho2) hb); have n3_ := Aside0.mk (Kd.R_below (sq_row HO433.out) hb); have n4_ := Aside0.mk (Kd.S_lower (Kd.S_new' ho0 (Kd.S_lt (by (with_reducible repeat (first | apply Kd.S_alloc | apply Kd.S_drewN | apply Kd.S_drew)); exact HO424.out))) (below_size (sq_below1 HB.out GE419.out))); have n5_ := Aside0.mk (Kd.R_lower (Kd.R_new' ho1 (Kd.R_lt (sq_row HO427.out))) (below_size (sq_below1 HB.out GE419.out))); have n6_ := Aside0.mk (Kd.R_lower (Kd.R_new' ho2 (Kd.R_lt (sq_row HO430.out))) (below_size (sq_below1 HB.out GE419.out))); have n7_ := Aside0.mk (blk_below (sq_blk BK419.out) hb); have n8_ := Aside0.mk (below_step (sq_below1 HB.out GE419.out) hb); clear HO424; clear HO427; clear HO430; clear HO433; clear BK419; clear HB; have HO424 := n0_; have HO427 := n1_; have HO430 := n2_; have HO433 := n3_; have HO437 := n4_; have HO440 := n5_; have HO443 := n6_; have BK419 := n7_; have HB := n8_; clear n0_ n1_ n2_ n3_ n4_ n5_ n6_ n7_ n8_; (try clear hb); (try clear ho0); (try clear ho1); (try clear ho2)) | ((with_reducible refine gate_dst (N := 11) rfl ?_); refine box_y 11 #[.slice none 0 0, .slice none 0 0, .slice none 0 0] 34 (h := ?_); intro gb444 hg w41 hbox hb; have n0_ := Aside0.mk (Kd.S_below (by (with_reducible repeat (first | apply Kd.S_alloc | apply Kd.S_drewN | apply Kd.S_drew)); exact HO424.out) hb); have n1_ := Aside0.mk (Kd.R_below (sq_row HO427.out) hb); have n2_ := Aside0.mk (Kd.R_below (sq_row HO430.out) hb); have n3_ := Aside0.mk (Kd.R_below (sq_row HO433.out) hb); have n4_ := Aside0.mk (Kd.S_below (by (with_reducible repeat (first | apply Kd.S_alloc | apply Kd.S_drewN | apply Kd.S_drew)); exact HO437.out) hb); have n5_ := Aside0.mk (Kd.R_below (sq_row HO440.out) hb); have n6_ := Aside0.mk (Kd.R_below (sq_row HO443.out) hb); have n7_ := Aside0.mk (blk_below (sq_blk BK419.out) hb); have n8_ := Aside0.mk (below_step (sq_below1 HB.out GE419.out) hb); have n9_ := Aside0.mk (hbox); have n10_ := ge_ hg (below_size (sq_below1 HB.out GE419.out)); have n11_ := ge_ hg (below_size (sq_below1 HB.out GE419.out)); have n12_ := nb_ hg BK419; have n13_ := Aside0.mk (Ne.symm n12_.out); clear HO424; clear HO427; clear HO430; clear HO433; clear HO437; clear HO440; clear HO443; clear BK419; clear HB; have HO424 := n0_; have HO427 := n1_; have HO430 := n2_; have HO433 := n3_; have HO437 := n4_; have HO440 := n5_; have HO443 := n6_; have BK419 := n7_; have HB := n8_; have BK444 := n9_; have GW444 := n10_; have GE444 := n11_; have NB419_444 := n12_; have NB444_419 := n13_; clear n0_ n1_ n2_ n3_ n4_ n5_ n6_ n7_ n8_ n9_ n10_ n11_ n12_ n13_; clear hb hbox hg; obtain ⟨Ao42, co42, eo42⟩ := Kd.S_slice HO437.out; subst eo42; have hnb43 := NB444_419.out; have hnc43 := NB419_444.out; have hcz44_0 := cl_ (v := .slice none 0 0) BK444 0; have hcz44_1 := cl_ (v := .slice none 0 0) BK444 1; have hcz44_2 := cl_ (v := .slice none 0 0) BK444 2; have hfz44_0 := blk_frozen BK444.out 0; have hfz44_1 := blk_frozen BK444.out 1; have hfz44_2 := blk_frozen BK444.out 2; obtain ⟨Ao45, co45, eo45⟩ := Kd.R_slice HO440.out; subst eo45; obtain ⟨Ao46, co46, eo46⟩ := Kd.R_slice HO443.out; subst eo46) | ((with_reducible refine gate_callee (f := 8) rfl ?_); refine gl_ 34 Tryz.func8 #[.slice A3 l3.length c3] (h := ?_); (with_reducible refine (laws_toStringS.calls k _ _ l3 t445 _ ?side1 ?side2 A19.out).mono ?_); (case side1 => exact Kd.C_below HR3.out (sq_below2 HB.out GE419.out GE444.out)); (case side2 => exact HC3.out); rintro e w47 ⟨v446, rfl, ho0, hb⟩; refine ⟨_, rfl, ?_⟩; have n0_ := Aside0.mk (Kd.S_below (by (with_reducible repeat (first | apply Kd.S_alloc | apply Kd.S_drewN | apply Kd.S_drew)); exact (Kd.S_mono (Kd.S_far (p := ⟨gb444, 2, none⟩) (Kd.S_far (p := ⟨gb444, 1, none⟩) (Kd.S_far (p := ⟨gb444, 0, none⟩) (Kd.S_types HO424.out BK444.out (by decide)) (fun _ hk => hk.2) (.slice Ao42 t435.length co42)) (fun _ hk => hk.2) (.slice Ao45 t438.length co45)) (fun _ hk => hk.2) (.slice Ao46 t441.length co46)) (fun _ h_ => h_.1))) hb); have n1_ := Aside0.mk (Kd.R_below (by (with_reducible repeat (first | apply Kd.R_alloc | apply Kd.R_drewN | apply Kd.R_drew)); exact (Kd.R_mono (Kd.R_far (p := ⟨gb444, 2, none⟩) (Kd.R_far (p := ⟨gb444, 1, none⟩) (Kd.R_far (p := ⟨gb444, 0, none⟩) (Kd.R_types HO427.out BK444.out (by decide)) (fun _ hk => hk.2) (.slice Ao42 t435.length co42)) (fun _ hk => hk.2) (.slice Ao45 t438.length co45)) (fun _ hk => hk.2) (.slice Ao46 t441.length co46)) (fun _ h_ => h_.1))) hb); have n2_ := Aside0.mk (Kd.R_below (by (with_reducible repeat (first | apply Kd.R_alloc | apply Kd.R_drewN | apply Kd.R_drew)); exact (Kd.R_mono (Kd.R_far (p := ⟨gb444, 2, none⟩) (Kd.R_far (p := ⟨gb444, 1, none⟩) (Kd.R_far (p := ⟨gb444, 0, none⟩) (Kd.R_types HO430.out BK444.out (by decide)) (fun _ hk => hk.2) (.slice Ao42 t435.length co42)) (fun _ hk => hk.2) (.slice Ao45 t438.length co45)) (fun _ hk => hk.2) (.slice Ao46 t441.length co46)) (fun _ h_ => h_.1))) hb); have n3_ := Aside0.mk (Kd.R_elder' (by (with_reducible repeat (first | apply Kd.R_alloc | apply Kd.R_drewN | apply Kd.R_drew)); exact (Kd.R_mono (Kd.R_far (p := ⟨gb444, 2, none⟩) (Kd.R_far (p := ⟨gb444, 1, none⟩) (Kd.R_far (p := ⟨gb444, 0, none⟩) (Kd.R_types HO433.out BK444.out (by decide)) (fun _ hk => hk.2) (.slice Ao42 t435.length co42)) (fun _ hk => hk.2) (.slice Ao45 t438.length co45)) (fun _ hk => hk.2) (.slice Ao46 t441.length co46)) (fun _ h_ => h_.1))) (Kd.R_base ho0) hb); have n4_ := Aside0.mk (Kd.S_below (by (with_reducible repeat (first | apply Kd.S_alloc | apply Kd.S_drewN | apply Kd.S_drew)); exact (Kd.S_mono (Kd.S_far (p := ⟨gb444, 2, none⟩) (Kd.S_far (p := ⟨gb444, 1, none⟩) (Kd.S_far (p := ⟨gb444, 0, none⟩) (Kd.S_types HO437.out BK444.out (by decide)) (fun _ hk => hk.2) (.slice Ao42 t435.length co42)) (fun _ hk => hk.2) (.slice Ao45 t438.length co45)) (fun _ hk => hk.2) (.slice Ao46 t441.length co46)) (fun _ h_ => h_.1))) hb); have n5_ := Aside0.mk (Kd.R_below (by (with_reducible repeat (first | apply Kd.R_alloc | apply Kd.R_drewN | apply Kd.R_drew)); exact (Kd.R_mono (Kd.R_far (p := ⟨gb444, 2, none⟩) (Kd.R_far (p := ⟨gb444, 1, none⟩) (Kd.R_far (p := ⟨gb444, 0, none⟩) (Kd.R_types HO440.out BK444.out (by decide)) (fun _ hk => hk.2) (.slice Ao42 t435.length co42)) (fun _ hk => hk.2) (.slice Ao45 t438.length co45)) (fun _ hk => hk.2) (.slice Ao46 t441.length co46)) (fun _ h_ => h_.1))) hb); have n6_ := Aside0.mk (Kd.R_below (by (with_reducible repeat (first | apply Kd.R_alloc | apply Kd.R_drewN | apply Kd.R_drew)); exact (Kd.R_mono (Kd.R_far (p := ⟨gb444, 2, none⟩) (Kd.R_far (p := ⟨gb444, 1, none⟩) (Kd.R_far (p := ⟨gb444, 0, none⟩) (Kd.R_types HO443.out BK444.out (by decide)) (fun _ hk => hk.2) (.slice Ao42 t435.length co42)) (fun _ hk => hk.2) (.slice Ao45 t438.length co45)) (fun _ hk => hk.2) (.slice Ao46 t441.length co46)) (fun _ h_ => h_.1))) hb); have n7_ := Aside0.mk (Kd.R_lower (Kd.R_new' ho0 (Kd.R_lt (by (with_reducible repeat (first | apply Kd.R_alloc | apply Kd.R_drewN | apply Kd.R_drew)); exact (Kd.R_mono (Kd.R_far (p := ⟨gb444, 2, none⟩) (Kd.R_far (p := ⟨gb444, 1, none⟩) (Kd.R_far (p := ⟨gb444, 0, none⟩) (Kd.R_types HO433.out BK444.out (by decide)) (fun _ hk => hk.2) (.slice Ao42 t435.length co42)) (fun _ hk => hk.2) (.slice Ao45 t438.length co45)) (fun _ hk => hk.2) (.slice Ao46 t441.length co46)) (fun _ h_ => h_.1))))) (below_size (sq_below2 HB.out GE419.out GE444.out))); have n8_ := Aside0.mk (blk_below (g := gb419) (o := .cells #[.slice A2_0 l2_0.length c2_0, .slice A2_1 l2_1.length c2_1, .slice A2_2 l2_2.length c2_2] 26 (0, 0)) (bf_ BK419 NB419_444).out hb); have n9_ := Aside0.mk (blk_below (g := gb444) (o := .cells #[.slice Ao42 t435.length co42, .slice Ao45 t438.length co45, .slice Ao46 t441.length co46] 34 (0, 0)) (bp_ BK444) hb); have n10_ := Aside0.mk (below_step (sq_below2 HB.out GE419.out GE444.out) hb); clear HO424; clear HO427; clear HO430; clear HO433; clear HO437; clear HO440; clear HO443; clear BK419; clear BK444; clear HB; have HO424 := n0_; have HO427 := n1_; have HO430 := n2_; have HO433 := n3_; have HO437 := n4_; have HO440 := n5_; have HO443 := n6_; have HO447 := n7_; have BK419 := n8_; have BK444 := n9_; have HB := n10_; clear n0_ n1_ n2_ n3_ n4_ n5_ n6_ n7_ n8_ n9_ n10_; (try clear hb); (try clear ho0); have hcz48_0 := cl_ (v := .slice Ao42 t435.length co42) BK444 0; have hcz48_1 := cl_ (v := .slice Ao45 t438.length co45) BK444 1; have hcz48_2 := cl_ (v := .slice Ao46 t441.length co46) BK444 2; have hfz48_0 := blk_frozen BK444.out 0; have hfz48_1 := blk_frozen BK444.out 1; have hfz48_2 := blk_frozen BK444.out 2; obtain ⟨Ao49, co49, eo49⟩ := Kd.R_slice HO447.out; subst eo49) | ((with_reducible refine gate_callee (f := 9) rfl ?_); refine gl_ 39 Tryz.func9 #[.int .i64 a0, .int .i64 a1, .agg #[.slice Ao42 t435.length co42, .slice Ao45 t438.length co45, .slice Ao46 t441.length co46], .slice Ao49 t445.length co49] (h := ?_); (with_reducible refine (impl_SegText.calls k a0 a1 _ _ t435 _ _ t438 _ _ t441 _ _ t445 t448 _ ?side9 ?side10 ?side11 ?side12 ?side13 ?side1 ?side2 ?side3 ?side4 ?side5 ?side6 ?side7 ?side8 A20.out).mono ?_); (case side1 => exact sq_c ((Kd.S_reads' HO437.out).2.2)); (case side2 => exact (Kd.S_reads' HO437.out).2.1); (case side3 => exact sq_c ((Kd.R_reads' HO440.out).2.2)); (case side4 => exact (Kd.R_reads' HO440.out).2.1); (case side5 => exact sq_c ((Kd.R_reads' HO443.out).2.2)); (case side6 => exact (Kd.R_reads' HO443.out).2.1); (case side7 => exact sq_c ((Kd.R_reads' HO447.out).2.2)); (case side8 => exact (Kd.R_reads' HO447.out).2.1); (case side9 => exact GL0.below HG0.out (sq_below2 HB.out GE419.out GE444.out)); (case side10 => exact GL1.below HG1.out (sq_below2 HB.out GE419.out GE444.out)); (case side11 => exact GL2.below HG2.out (sq_below2 HB.out GE419.out GE444.out)); (case side12 => exact GL3.below HG3.out (sq_below2 HB.out GE419.out GE444.out)); (case side13 => exact GL4.below HG4.out (sq_below2 HB.out GE419.out GE444.out)); rintro e w50 ⟨rfl, hb⟩; refine ⟨_, rfl, ?_⟩; replace HO424 := Aside0.mk (Kd.S_below (by (with_reducible repeat (first | apply Kd.S_alloc | apply Kd.S_drewN | apply Kd.S_drew)); exact HO424.out) hb); replace HO427 := Aside0.mk (Kd.R_below (sq_row HO427.out) hb); replace HO430 := Aside0.mk (Kd.R_below (sq_row HO430.out) hb); replace HO433 := Aside0.mk (Kd.R_below (sq_row HO433.out) hb); replace HO437 := Aside0.mk (Kd.S_below (by (with_reducible repeat (first | apply Kd.S_alloc | apply Kd.S_drewN | apply Kd.S_drew)); exact HO437.out) hb); replace HO440 := Aside0.mk (Kd.R_below (sq_row HO440.out) hb); replace HO443 := Aside0.mk (Kd.R_below (sq_row HO443.out) hb); replace HO447 := Aside0.mk (Kd.R_below (sq_row HO447.out) hb); replace BK419 := bb_ BK419 hb; replace BK444 := bb_ BK444 hb; replace HB := hb2_ HB hb GE419 GE444; (try clear hb)))
      replace HO424 := Aside0.mk (Kd.S_drew HO424.out); replace HO427 := Aside0.mk (Kd.R_drew HO427.out); replace HO430 := Aside0.mk (Kd.R_drew HO430.out); replace HO433 := Aside0.mk (Kd.R_drew HO433.out); replace HO437 := Aside0.mk (Kd.S_drew HO437.out); replace HO440 := Aside0.mk (Kd.R_drew HO440.out); replace HO443 := Aside0.mk (Kd.R_drew HO443.out); replace HO447 := Aside0.mk (Kd.R_drew HO447.out); replace BK419 := bd_ BK419; replace BK444 := bd_ BK444; replace HB := hd_ HB; refine start_ (n := 5) (S := fun w' => w'.cell? ⟨gb444, 0, none⟩ = some (.slice Ao42 t435.length co42) ∧ w'.cell? ⟨gb444, 1, none⟩ = some (.slice Ao45 t438.length co45) ∧ w'.cell? ⟨gb444, 2, none⟩ = some (.slice Ao46 t441.length co46) ∧ w'.cell? ⟨gb419, 0, none⟩ = some (.slice A2_0 l2_0.length c2_0) ∧ w'.cell? ⟨gb419, 1, none⟩ = some (.slice A2_1 l2_1.length c2_1) ∧ w'.cell? ⟨gb419, 2, none⟩ = some (.slice A2_2 l2_2.length c2_2)) (ds := []) #[false, false, false, false, false] (by kernel_rfl) rfl rfl ⟨cl_ BK444 0, cl_ BK444 1, cl_ BK444 2, cl_ BK419 0, cl_ BK419 1, cl_ BK419 2⟩ (fun hHeld => ?_); generalize w50.drew = w51 at HO424 HO427 HO430 HO433 HO437 HO440 HO443 HO447 BK419 BK444 HB hHeld ⊢; refine take_ (i := 0) (N := some 43) (v := ?_) (a' := ?_) #[true, false, false, false, false] rfl rfl (by kernel_rfl) (fun _ _ _ h => h) (Or.inl ⟨by rfl, ?_⟩) hHeld ?_ ?_; rotate_left
      ·
       rintro w' ⟨s0, s1, s2, s3, s4, s5⟩; go_simp; with_reducible rfl
      rotate_left
      ·
       simp only [Act.put, List.setIfInBounds_toArray, List.set_cons_zero, List.set_cons_succ, i64_w, i32_w]; rfl
      refine take_ (i := 1) (N := some 44) (v := ?_) (a' := ?_) #[true, true, false, false, false] rfl rfl (by kernel_rfl) (fun _ _ _ h => h) (Or.inl ⟨by rfl, ?_⟩) hHeld ?_ ?_; rotate_left
      ·
       rintro w' ⟨s0, s1, s2, s3, s4, s5⟩; go_simp; with_reducible rfl
      rotate_left
      ·
       simp only [Act.put, List.setIfInBounds_toArray, List.set_cons_zero, List.set_cons_succ, i64_w, i32_w]; rfl
      refine one_ (i := 2) (N := some 45) #[true, true, true, false, false] rfl rfl (by kernel_rfl) (by decide) (fun K hK => ?_); refine gs_ Tryz.func7 #[.agg #[.slice A2_0 l2_0.length c2_0, .slice A2_1 l2_1.length c2_1, .slice A2_2 l2_2.length c2_2]] (h := ?_); with_reducible refine (laws_toSeg.calls k _ _ l2_0 _ _ l2_1 _ _ l2_2 t449 t452 t455 _ ?side1 ?side2 ?side3 ?side4 ?side5 ?side6 A22.out).mono ?_
      (case side1 => exact sq_c (Kd.C_below HR2_0.out HB.out))
      (case side2 => exact HC2_0.out)
      (case side3 => exact sq_c (Kd.C_below HR2_1.out HB.out))
      (case side4 => exact HC2_1.out)
      (case side5 => exact sq_c (Kd.C_below HR2_2.out HB.out))
      (case side6 => exact HC2_2.out)
      rintro e w52 ⟨v450, v453, v456, rfl, ho0, ho1, ho2, hb⟩; refine ⟨_, rfl, ?_⟩; have n0_ := Aside0.mk (Kd.S_elder' (by (with_reducible repeat (first | apply Kd.S_alloc | apply Kd.S_drewN | apply Kd.S_drew)); exact HO424.out) (Kd.S_base ho0) hb); have n1_ := Aside0.mk (Kd.R_elder' (sq_row HO427.out) (Kd.R_base ho1) hb); have n2_ := Aside0.mk (Kd.R_elder' (sq_row HO430.out) (Kd.R_base ho2) hb); have n3_ := Aside0.mk (Kd.R_below (sq_row HO433.out) hb); have n4_ := Aside0.mk (Kd.S_elder' (by (with_reducible repeat (first | apply Kd.S_alloc | apply Kd.S_drewN | apply Kd.S_drew)); exact HO437.out) (Kd.S_base ho0) hb); have n5_ := Aside0.mk (Kd.R_elder' (sq_row HO440.out) (Kd.R_base ho1) hb); have n6_ := Aside0.mk (Kd.R_elder' (sq_row HO443.out) (Kd.R_base ho2) hb); have n7_ := Aside0.mk (Kd.R_below (sq_row HO447.out) hb); have n8_ := Aside0.mk (Kd.S_lower (Kd.S_new' (Kd.S_new' ho0 (Kd.S_lt (by (with_reducible repeat (first | apply Kd.S_alloc | apply Kd.S_drewN | apply Kd.S_drew)); exact HO424.out))) (Kd.S_lt (by (with_reducible repeat (first | apply Kd.S_alloc | apply Kd.S_drewN | apply Kd.S_drew)); exact HO437.out))) (below_size (sq_below2 HB.out GE419.out GE444.out))); have n9_ := Aside0.mk (Kd.R_lower (Kd.R_new' (Kd.R_new' ho1 (Kd.R_lt (sq_row HO427.out))) (Kd.R_lt (sq_row HO440.out))) (below_size (sq_below2 HB.out GE419.out GE444.out))); have n10_ := Aside0.mk (Kd.R_lower (Kd.R_new' (Kd.R_new' ho2 (Kd.R_lt (sq_row HO430.out))) (Kd.R_lt (sq_row HO443.out))) (below_size (sq_below2 HB.out GE419.out GE444.out))); have n11_ := Aside0.mk (blk_below (sq_blk BK419.out) hb); have n12_ := Aside0.mk (blk_below (sq_blk BK444.out) hb); have n13_ := Aside0.mk (below_step (sq_below2 HB.out GE419.out GE444.out) hb); clear HO424 HO427 HO430 HO433 HO437 HO440 HO443 HO447 BK419 BK444 HB; have HO424 := n0_; have HO427 := n1_; have HO430 := n2_; have HO433 := n3_; have HO437 := n4_; have HO440 := n5_; have HO443 := n6_; have HO447 := n7_; have HO451 := n8_; have HO454 := n9_; have HO457 := n10_; have BK419 := n11_; have BK444 := n12_; have HB := n13_; clear n0_ n1_ n2_ n3_ n4_ n5_ n6_ n7_ n8_ n9_ n10_ n11_ n12_ n13_
      (try clear hb)
      (try clear hb2)
      (try clear hk)
      (try clear hi)
      (try clear ho0)
      (try clear ho1)
      (try clear ho2)
      obtain ⟨Ao53, co53, eo53⟩ := Kd.S_slice HO451.out
      (first | subst eo53 | (injection eo53 with f1_ f2_ f3_; have f4_ := f1_.symm; have f5_ := f3_.symm; clear f1_ f2_ f3_; subst f4_; subst f5_))
      obtain ⟨Ao54, co54, eo54⟩ := Kd.R_slice HO454.out
      (first | subst eo54 | (injection eo54 with f1_ f2_ f3_; have f4_ := f1_.symm; have f5_ := f3_.symm; clear f1_ f2_ f3_; subst f4_; subst f5_))
      obtain ⟨Ao55, co55, eo55⟩ := Kd.R_slice HO457.out
      (first | subst eo55 | (injection eo55 with f1_ f2_ f3_; have f4_ := f1_.symm; have f5_ := f3_.symm; clear f1_ f2_ f3_; subst f4_; subst f5_))
      refine hK.out _ _ ⟨cl_ BK444 0, cl_ BK444 1, cl_ BK444 2, cl_ BK419 0, cl_ BK419 1, cl_ BK419 2⟩ (fun hHeld => ?_); clear hK K; refine norm_y 45 (h := ?_)
      refine one_ (i := 3) (N := some 46) #[true, true, true, true, false] rfl rfl (by kernel_rfl) (by decide) (fun K hK => ?_); refine gs_ Tryz.func10 #[.agg #[.slice Ao42 t435.length co42, .slice Ao45 t438.length co45, .slice Ao46 t441.length co46], .agg #[.slice Ao53 t449.length co53, .slice Ao54 t452.length co54, .slice Ao55 t455.length co55]] (h := ?_); with_reducible refine (laws_eqSeg.calls k _ _ t435 _ _ t438 _ _ t441 _ _ t449 _ _ t452 _ _ t455 true _ ?side1 ?side2 ?side3 ?side4 ?side5 ?side6 ?side7 ?side8 ?side9 ?side10 ?side11 ?side12 A23.out).mono ?_
      (case side1 => exact sq_c ((Kd.S_reads' HO437.out).2.2))
      (case side2 => exact (Kd.S_reads' HO437.out).2.1)
      (case side3 => exact sq_c ((Kd.R_reads' HO440.out).2.2))
      (case side4 => exact (Kd.R_reads' HO440.out).2.1)
      (case side5 => exact sq_c ((Kd.R_reads' HO443.out).2.2))
      (case side6 => exact (Kd.R_reads' HO443.out).2.1)
      (case side7 => exact sq_c ((Kd.S_reads' HO451.out).2.2))
      (case side8 => exact (Kd.S_reads' HO451.out).2.1)
      (case side9 => exact sq_c ((Kd.R_reads' HO454.out).2.2))
      (case side10 => exact (Kd.R_reads' HO454.out).2.1)
      (case side11 => exact sq_c ((Kd.R_reads' HO457.out).2.2))
      (case side12 => exact (Kd.R_reads' HO457.out).2.1)
      rintro e w56 ⟨rfl, hb⟩; refine ⟨_, rfl, ?_⟩; replace HO424 := Aside0.mk (Kd.S_below (by (with_reducible repeat (first | apply Kd.S_alloc | apply Kd.S_drewN | apply Kd.S_drew)); exact HO424.out) hb); replace HO427 := Aside0.mk (Kd.R_below (sq_row HO427.out) hb); replace HO430 := Aside0.mk (Kd.R_below (sq_row HO430.out) hb); replace HO433 := Aside0.mk (Kd.R_below (sq_row HO433.out) hb); replace HO437 := Aside0.mk (Kd.S_below (by (with_reducible repeat (first | apply Kd.S_alloc | apply Kd.S_drewN | apply Kd.S_drew)); exact HO437.out) hb); replace HO440 := Aside0.mk (Kd.R_below (sq_row HO440.out) hb); replace HO443 := Aside0.mk (Kd.R_below (sq_row HO443.out) hb); replace HO447 := Aside0.mk (Kd.R_below (sq_row HO447.out) hb); replace HO451 := Aside0.mk (Kd.S_below (by (with_reducible repeat (first | apply Kd.S_alloc | apply Kd.S_drewN | apply Kd.S_drew)); exact HO451.out) hb); replace HO454 := Aside0.mk (Kd.R_below (sq_row HO454.out) hb); replace HO457 := Aside0.mk (Kd.R_below (sq_row HO457.out) hb); replace BK419 := bb_ BK419 hb; replace BK444 := bb_ BK444 hb; replace HB := hb2_ HB hb GE419 GE444
      (try clear hb)
      (try clear hb2)
      (try clear hk)
      (try clear hi)
      refine hK.out _ _ ⟨cl_ BK444 0, cl_ BK444 1, cl_ BK444 2, cl_ BK419 0, cl_ BK419 1, cl_ BK419 2⟩ (fun hHeld => ?_); clear hK K; refine norm_y 46 (h := ?_)
      refine pure_ (i := 4) (N := some 47) (v := ?_) (a' := ?_) #[true, true, true, true, true] rfl rfl (by kernel_rfl) (fun _ _ _ h => h) (Or.inl ⟨by rfl, ?_⟩) ?_ ?_; rotate_left
      ·
       intro w'; go_simp; with_reducible rfl
      rotate_left
      ·
       simp only [Act.put, List.setIfInBounds_toArray, List.set_cons_zero, List.set_cons_succ, i64_w, i32_w]; rfl
      refine done_ (by kernel_rfl) ?_
      try go_wp2_with (first | ((with_reducible refine gate_callee (f := 8) rfl ?_); refine gl_ 50 Tryz.func8 #[.slice A3 l3.length c3] (h := ?_); (with_reducible refine (laws_toStringS.calls k _ _ l3 t459 _ ?side1 ?side2 A25.out).mono ?_); (case side1 => exact sq_c (Kd.C_below HR3.out HB.out)); (case side2 => exact HC3.out); rintro e w57 ⟨v460, rfl, ho0, hb⟩; refine ⟨_, rfl, ?_⟩; have n0_ := Aside0.mk (Kd.S_below (by (with_reducible repeat (first | apply Kd.S_alloc | apply Kd.S_drewN | apply Kd.S_drew)); exact HO424.out) hb); have n1_ := Aside0.mk (Kd.R_below (sq_row HO427.out) hb); have n2_ := Aside0.mk (Kd.R_below (sq_row HO430.out) hb); have n3_ := Aside0.mk (Kd.R_elder' (sq_row HO433.out) (Kd.R_base ho0) hb); have n4_ := Aside0.mk (Kd.S_below (by (with_reducible repeat (first | apply Kd.S_alloc | apply Kd.S_drewN | apply Kd.S_drew)); exact HO437.out) hb); have n5_ := Aside0.mk (Kd.R_below (sq_row HO440.out) hb); have n6_ := Aside0.mk (Kd.R_below (sq_row HO443.out) hb); have n7_ := Aside0.mk (Kd.R_elder' (sq_row HO447.out) (Kd.R_base ho0) hb); have n8_ := Aside0.mk (Kd.S_below (by (with_reducible repeat (first | apply Kd.S_alloc | apply Kd.S_drewN | apply Kd.S_drew)); exact HO451.out) hb); have n9_ := Aside0.mk (Kd.R_below (sq_row HO454.out) hb); have n10_ := Aside0.mk (Kd.R_below (sq_row HO457.out) hb); have n11_ := Aside0.mk (Kd.R_lower (Kd.R_new' (Kd.R_new' ho0 (Kd.R_lt (sq_row HO433.out))) (Kd.R_lt (sq_row HO447.out))) (below_size (sq_below HB.out))); have n12_ := Aside0.mk (below_step (sq_below HB.out) hb); clear HO424; clear HO427; clear HO430; clear HO433; clear HO437; clear HO440; clear HO443; clear HO447; clear HO451; clear HO454; clear HO457; clear HB; have HO424 := n0_; have HO427 := n1_; have HO430 := n2_; have HO433 := n3_; have HO437 := n4_; have HO440 := n5_; have HO443 := n6_; have HO447 := n7_; have HO451 := n8_; have HO454 := n9_; have HO457 := n10_; have HO461 := n11_; have HB := n12_; clear n0_ n1_ n2_ n3_ n4_ n5_ n6_ n7_ n8_ n9_ n10_ n11_ n12_; (try clear hb); (try clear ho0); obtain ⟨Ao58, co58, eo58⟩ := Kd.R_slice HO461.out; subst eo58) | ((with_reducible refine gate_callee (f := 11) rfl ?_); refine gl_ 51 Tryz.func11 #[.slice Ao49 t445.length co49, .slice Ao58 t459.length co58] (h := ?_); (with_reducible refine (laws_eqStringS.calls k _ _ t445 _ _ t459 true _ ?side1 ?side2 ?side3 ?side4 A26.out).mono ?_); (case side1 => exact sq_c ((Kd.R_reads' HO447.out).2.2)); (case side2 => exact (Kd.R_reads' HO447.out).2.1); (case side3 => exact sq_c ((Kd.R_reads' HO461.out).2.2)); (case side4 => exact (Kd.R_reads' HO461.out).2.1); rintro e w' ⟨rfl, ⟨nd, rfl⟩⟩; refine ⟨_, rfl, ?_⟩))
      go_ret
      exact ⟨by first | rfl | (simp [errW_none, errW_some] <;> rfl) | (simp [*, errW_none, errW_some] <;> rfl), sq_below HB.out⟩
     ·
      replace c27 := Bool.eq_false_iff.mpr c27; subst c27; exact (no_ H hr_).elim
    ·
     replace c24 := Bool.eq_false_iff.mpr c24; subst c24; exact (no_ H hr_).elim
   ·
    rw [if_neg c21] at H; have c21b0 : (t448.toList == t434.toList) = false := beq_eq_false_iff_ne.mpr c21; have c21b1 : (t448.toList != t434.toList) = true := bne_iff_ne.mpr c21; exact absurd ((Option.some.inj H).trans hr_) Bool.false_ne_true

end Go.Proofs.YtfeloencepgdlaaGreatDoor.Q
