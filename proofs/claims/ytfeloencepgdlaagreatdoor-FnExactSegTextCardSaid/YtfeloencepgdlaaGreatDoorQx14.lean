/- Functions of the translation as Lean functions, each with a proof that a call answers so; out of the seat, by this claim's own program prt.py. -/
import Derived.Test.YtfeloencepgdlaaGreatDoorWTab
import Derived.Test.YtfeloencepgdlaaGreatDoorWRepsOne
import Derived.Test.YtfeloencepgdlaaGreatDoorWGuard
import Derived.Test.YtfeloencepgdlaaGreatDoorQx0
import Derived.Test.YtfeloencepgdlaaGreatDoorQx4
import Derived.Test.YtfeloencepgdlaaGreatDoorQx11
import Derived.Test.YtfeloencepgdlaaGreatDoorQx12
import Derived.Test.YtfeloencepgdlaaGreatDoorQStep
namespace Go.Proofs.YtfeloencepgdlaaGreatDoor.Q
open Go.RowKit Go.Proofs.YtfeloencepgdlaaGreatDoorW.PrintWords Go.Proofs.YtfeloencepgdlaaGreatDoorW.PrintLast Go.Proofs.YtfeloencepgdlaaGreatDoorW.PrintMore
attribute [local go_sem] max2_int min2_int max_two min_two max_three min_three max_four min_four   -- for this text's walks alone
set_option linter.unusedVariables false
set_option linter.unusedSimpArgs false

/-! ### spec_SymText: function 35 -/
def spec_SymText.j0 : Nat → List ByteArray → Bool → Int → Int → Option (ByteArray)
 | 0, _, _, _, _ => none
 | k + 1, x1, x15, x182000, x182001 => if x15 = true then (some (⟨#[]⟩ : ByteArray)) else (if x182000 = 0 then ((spec_l01Digits.f k x182001).bind fun t184 => (some t184)) else (if x182001 > 0 then (if 0 ≤ (wrap64 (x182000 - 1)) then (if (wrap64 (x182000 - 1)) < (x1.length : Int) then (if (rdOf ByteArray.empty x1 (wrap64 (x182000 - 1))).size + 3 ≤ 9223372036854775807 then ((spec_l01Digits.f k x182001).bind fun t186 => (if (rdOf ByteArray.empty x1 (wrap64 (x182000 - 1))).size + 3 + t186.size ≤ 9223372036854775807 then (some (((rdOf ByteArray.empty x1 (wrap64 (x182000 - 1))) ++ (⟨#[32, 43, 32]⟩ : ByteArray)) ++ t186)) else (none))) else (none)) else (none)) else (none)) else (if x182001 < 0 then (if 0 ≤ (wrap64 (x182000 - 1)) then (if (wrap64 (x182000 - 1)) < (x1.length : Int) then (if (rdOf ByteArray.empty x1 (wrap64 (x182000 - 1))).size + 3 ≤ 9223372036854775807 then ((spec_l01Digits.f k (wrap64 (-x182001))).bind fun t188 => (if (rdOf ByteArray.empty x1 (wrap64 (x182000 - 1))).size + 3 + t188.size ≤ 9223372036854775807 then (some (((rdOf ByteArray.empty x1 (wrap64 (x182000 - 1))) ++ (⟨#[32, 45, 32]⟩ : ByteArray)) ++ t188)) else (none))) else (none)) else (none)) else (none)) else (if 0 ≤ (wrap64 (x182000 - 1)) then (if (wrap64 (x182000 - 1)) < (x1.length : Int) then (some (rdOf ByteArray.empty x1 (wrap64 (x182000 - 1)))) else (none)) else (none)))))
def spec_SymText.f (k : Nat) (a0_0 : Int) (a0_1 : Int) (l1 : List ByteArray) : Option (ByteArray) := (spec_l08Labels.f k l1).bind fun t182 => (if t182 = true then ((spec_SymOk.f (wrap64 ((l1.length : Int) + 1)) a0_0 a0_1).bind fun t183 => (spec_SymText.j0 k l1 (!t183) a0_0 a0_1)) else (spec_SymText.j0 k l1 true a0_0 a0_1))
theorem spec_SymText.mono_l : ∀ k, (∀ y0 y1 y2 y3, LeO (spec_SymText.j0 k y0 y1 y2 y3) (spec_SymText.j0 (k + 1) y0 y1 y2 y3))
 | 0 => fun _ _ _ _ r h => by simp [spec_SymText.j0] at h
 | k + 1 => by
  have ih0 := spec_SymText.mono_l k
  ·
   intro y0 y1 y2 y3; unfold spec_SymText.j0
   repeat' first
   | (with_reducible exact ih0 _ _ _ _)
   | (with_reducible exact spec_l01Digits.mono _ _)
   | (with_reducible exact spec_l08Labels.mono _ _)
   | (with_reducible exact LeO.refl _)
   | (with_reducible exact LeO.none _)
   | (with_reducible refine LeO.ite ?_ ?_)
   | (with_reducible refine LeO.bind ?_ (fun _ => ?_))
   | exact ih0 _ _ _ _
   | exact spec_l01Digits.mono _ _
   | exact spec_l08Labels.mono _ _
   | exact LeO.none _
   | refine LeO.ite ?_ ?_
   | refine LeO.bind ?_ (fun _ => ?_)
theorem spec_SymText.mono : ∀ a0 a1 a2 k, LeO (spec_SymText.f k a0 a1 a2) (spec_SymText.f (k + 1) a0 a1 a2) := by
 intro a0 a1 a2 k; have ih0 := spec_SymText.mono_l k; unfold spec_SymText.f
 repeat' first
   | (with_reducible exact ih0 _ _ _ _)
   | (with_reducible exact spec_l01Digits.mono _ _)
   | (with_reducible exact spec_l08Labels.mono _ _)
   | (with_reducible exact LeO.refl _)
   | (with_reducible exact LeO.none _)
   | (with_reducible refine LeO.ite ?_ ?_)
   | (with_reducible refine LeO.bind ?_ (fun _ => ?_))
   | exact ih0 _ _ _ _
   | exact spec_l01Digits.mono _ _
   | exact spec_l08Labels.mono _ _
   | exact LeO.none _
   | refine LeO.ite ?_ ?_
   | refine LeO.bind ?_ (fun _ => ?_)
def spec_SymText.T6 : Bool × List (List Nat × List Nat) := (true, [([], []), ([], []), ([1], [1]), ([2], [2]), ([0, 3], [0, 3]), ([4], [4]), ([5], [5]), ([], []), ([7], [7]), ([8], [8]), ([6, 9], [6, 9]), ([10, 9, 0, 1, 2, 3, 4, 5, 6, 7, 8, 9, 10], [10])])
def spec_SymText.B6 : List Nat := [0, 0, 2, 6, 15, 31, 63, 0, 128, 384, 1023, 2047]
theorem spec_SymText.tab6 : rtab .any (opsOf Tryz.f35 6) = spec_SymText.T6 := by kernel_rfl
theorem spec_SymText.bits6 : waitsOk spec_SymText.T6.2 spec_SymText.B6 = true := by kernel_rfl
def spec_SymText.T8 : Bool × List (List Nat × List Nat) := (true, [([], []), ([], []), ([1], [1]), ([2], [2]), ([0, 3], [0, 3]), ([4], [4]), ([5], [5]), ([], []), ([7], [7]), ([8], [8]), ([9], [9]), ([6, 10], [6, 10]), ([11, 10, 0, 1, 2, 3, 4, 5, 6, 7, 8, 9, 10, 11], [11])])
def spec_SymText.B8 : List Nat := [0, 0, 2, 6, 15, 31, 63, 0, 128, 384, 896, 2047, 4095]
theorem spec_SymText.tab8 : rtab .any (opsOf Tryz.f35 8) = spec_SymText.T8 := by kernel_rfl
theorem spec_SymText.bits8 : waitsOk spec_SymText.T8.2 spec_SymText.B8 = true := by kernel_rfl
set_option maxHeartbeats 8000000 in
set_option maxRecDepth 100000 in
theorem spec_SymText.calls (k : Nat) (a0_0 : Int) (a0_1 : Int) (A1 : Option Addr) (c1 : Nat) (l1 : List ByteArray) (r : ByteArray) (w : World) (hr1 : Kd.C Kd.string w A1 l1.length l1) (hc1 : l1.length ≤ c1) (h : spec_SymText.f k a0_0 a0_1 l1 = some r) :
  Calls Tryz.prog 35 #[.agg #[.int .i64 a0_0, .int .i64 a0_1], .slice A1 l1.length c1] w fun e w' => e = .returned (.string r) ∧ Below w.heap.size w w' := by
 have hu59 := Tryz.underlying59; have HR1 := Aside0.mk hr1; have HC1 := Aside0.mk hc1; clear hr1 hc1; have HB := Aside0.mk (Below.refl w.heap.size w); have H : ((spec_l08Labels.f k l1).bind fun t182 => (if t182 = true then ((spec_SymOk.f (wrap64 ((l1.length : Int) + 1)) a0_0 a0_1).bind fun t183 => (spec_SymText.j0 k l1 (!t183) a0_0 a0_1)) else (spec_SymText.j0 k l1 true a0_0 a0_1))) = some r := h; clear h; have HC3 := Aside0.mk H; clear H
 go_enter Tryz.func35, Tryz.ntmps35
 go_upto_region 1 with (first | ((with_reducible refine gate_dst (N := 2) rfl ?_); (try (refine gate_guard (by rfl) ?_; dsimp only)); refine box_y 2 #[.int .i64 a0_0, .int .i64 a0_1] 59 (h := ?_); intro gb181 hg w4 hbox hb; have n0_ := Aside0.mk (below_step (sq_below HB.out) hb); have n1_ := Aside0.mk (hbox); have n2_ := ge_ hg (below_size (sq_below HB.out)); have n3_ := ge_ hg (below_size (sq_below HB.out)); clear HB; have HB := n0_; have BK181 := n1_; have GW181 := n2_; have GE181 := n3_; clear n0_ n1_ n2_ n3_; clear hb hbox hg))
 (try simp only [Act.put, List.setIfInBounds_toArray, List.set_cons_zero, List.set_cons_succ])
 go_cut [15] (fun v15 wc => ∃ (kq : Nat) (x15_2 : Bool), v15 = .bool x15_2 ∧ Aside0 (spec_SymText.j0 kq l1 x15_2 a0_0 a0_1 = some r) ∧ Aside0 (kq ≤ k) ∧ Aside0 (wc.heap[gb181]? = some (.cells #[.int .i64 a0_0, .int .i64 a0_1] 59 (0, 0))) ∧ Aside0 (Below w.heap.size w wc))
 case first =>
  have H := HC3.out; clear HC3; replace H := Option.bind_eq_some_iff.mp H; obtain ⟨t182, A50, H⟩ := H; (try dsimp only at H); have A5 := Aside0.mk A50; clear A50
  by_cases c6 : t182 = true
  ·
   subst c6; have H1 := ifp_ H
   clear H; have H := H1; clear H1; replace H := Option.bind_eq_some_iff.mp H; obtain ⟨t183, A70, H⟩ := H; replace H : (spec_SymText.j0 k l1 (!t183) a0_0 a0_1) = some r := H; have A7 := Aside0.mk A70; clear A70; have H' := Aside0.mk H; clear H
   go_wp2_with (first | ((with_reducible refine gate_callee (f := 16) rfl ?_); refine gl_ 6 Tryz.func16 #[.slice A1 l1.length c1] (h := ?_); (with_reducible refine (spec_l08Labels.calls k _ _ l1 true _ ?side1 ?side2 A5.out).mono ?_); (case side1 => exact sq_c (Kd.C_below HR1.out HB.out)); (case side2 => exact HC1.out); rintro e w8 ⟨rfl, hb⟩; refine ⟨_, rfl, ?_⟩; replace BK181 := bb_ BK181 hb; replace HB := hb1_ HB hb GE181; (try clear hb); have hcz9_0 := cl_ (v := .int .i64 a0_0) BK181 0; have hcz9_1 := cl_ (v := .int .i64 a0_1) BK181 1; have hfz9_0 := blk_frozen BK181.out 0; have hfz9_1 := blk_frozen BK181.out 1) | (go_at_call 29; (with_reducible refine (spec_SymOk.calls (wrap64 ((l1.length : Int) + 1)) a0_0 a0_1 t183 _ A7.out).mono ?_); rintro e w10 ⟨rfl, hb⟩; replace BK181 := bb_ BK181 hb; replace HB := hb1_ HB hb GE181; (try clear hb)))
   go_meet
   case rel => exact ⟨_, (!t183), (by first | rfl | (simp; done) | (simp [*]; done)), H', ⟨by first | omega | exact Nat.le_refl _⟩, bk_ BK181, ⟨sq_below1 HB.out GE181.out⟩⟩
  ·
   replace c6 := Bool.eq_false_iff.mpr c6; subst c6; have H1 := ifn_ H
   clear H; have H := H1; clear H1; have H' := Aside0.mk H; clear H
   go_wp2_with (first | ((with_reducible refine gate_callee (f := 16) rfl ?_); refine gl_ 6 Tryz.func16 #[.slice A1 l1.length c1] (h := ?_); (with_reducible refine (spec_l08Labels.calls k _ _ l1 false _ ?side1 ?side2 A5.out).mono ?_); (case side1 => exact sq_c (Kd.C_below HR1.out HB.out)); (case side2 => exact HC1.out); rintro e w11 ⟨rfl, hb⟩; refine ⟨_, rfl, ?_⟩; replace BK181 := bb_ BK181 hb; replace HB := hb1_ HB hb GE181; (try clear hb)))
   go_meet
   case rel => exact ⟨_, (true), (by first | rfl | (simp; done) | (simp [*]; done)), H', ⟨by first | omega | exact Nat.le_refl _⟩, bk_ BK181, ⟨sq_below1 HB.out GE181.out⟩⟩
 case rest =>
  clear HC3
  try clear c1
  try clear p2
  try clear c3
  try clear c6
  try clear p6
  try clear hcz9_0
  try clear hcz9_1
  try clear hfz9_0
  try clear hfz9_1
  obtain ⟨kq, x15_2, rfl, HA, HJ2, BK181, HB⟩ := hcut; cases kq with
  | zero => exact absurd HA.out (by simp [spec_SymText.j0])
  | succ kj2 =>
   have H := HA.out; clear HA; simp only [spec_SymText.j0] at H
   by_cases c12 : x15_2 = true
   ·
    subst c12; have H1 := ifp_ H
    clear H; have H := H1; clear H1; obtain rfl := Option.some.inj H
    go_wp2
    go_ret
    exact ⟨by first | rfl | (simp [errW_none, errW_some] <;> rfl) | (simp [*, errW_none, errW_some] <;> rfl), sq_below1 HB.out GE181.out⟩
   ·
    replace c12 := Bool.eq_false_iff.mpr c12; subst c12; have H1 := ifn_ H
    clear H; have H := H1; clear H1
    by_cases c13 : a0_0 = 0
    ·
     rw [if_pos c13] at H; have c13b0 : (a0_0 == 0) = true := beq_iff_eq.mpr c13; have c13b1 : (a0_0 != 0) = false := bne_eq_false_iff_eq.mpr c13; clear c13; replace H := Option.bind_eq_some_iff.mp H; obtain ⟨t184, A140, H⟩ := H; replace H : (some t184) = some r := H; have A14 := Aside0.mk A140; clear A140; obtain rfl := Option.some.inj H; have hcz15_0 := cl_ (v := .int .i64 a0_0) BK181 0; have hcz15_1 := cl_ (v := .int .i64 a0_1) BK181 1; have hfz15_0 := blk_frozen BK181.out 0; have hfz15_1 := blk_frozen BK181.out 1
     go_wp2_with (first | ((with_reducible refine gate_callee (f := 62) rfl ?_); refine gl_ 21 Tryz.func62 #[.int .i64 a0_1] (h := ?_); (with_reducible refine (spec_l01Digits.calls kj2 a0_1 t184 _ A14.out).mono ?_); rintro e w16 ⟨rfl, hb⟩; refine ⟨_, rfl, ?_⟩; replace HB := hb_ HB hb; (try clear hb)))
     go_ret
     exact ⟨by first | rfl | (simp [errW_none, errW_some] <;> rfl) | (simp [*, errW_none, errW_some] <;> rfl), sq_below HB.out⟩
    ·
     rw [if_neg c13] at H; have c13b0 : (a0_0 == 0) = false := beq_eq_false_iff_ne.mpr c13; have c13b1 : (a0_0 != 0) = true := bne_iff_ne.mpr c13
     by_cases c17 : a0_1 > 0
     ·
      rw [if_pos c17] at H; have c17b0 : decide (0 < a0_1) = true := decide_eq_true c17; clear c17; obtain ⟨ji18, hji18⟩ : ∃ j_ : Int, (wrap64 (a0_0 - 1)) = j_ := ⟨_, rfl⟩; replace H : (if 0 ≤ (ji18) then (if (ji18) < (l1.length : Int) then (if (rdOf ByteArray.empty l1 (ji18)).size + 3 ≤ 9223372036854775807 then ((spec_l01Digits.f kj2 a0_1).bind fun t186 => (if (rdOf ByteArray.empty l1 (ji18)).size + 3 + t186.size ≤ 9223372036854775807 then (some (((rdOf ByteArray.empty l1 (ji18)) ++ (⟨#[32, 43, 32]⟩ : ByteArray)) ++ t186)) else (none))) else (none)) else (none)) else (none)) = some r := by first | (rw [hji18] at H; exact H) | (simp only [hji18] at H ⊢; exact H)
      have hji18w : (IntKind.i64.wrap (a0_0 - 1)) = ji18 := (i64_w _).trans hji18
      by_cases c19 : 0 ≤ (ji18)
      ·
       rw [if_pos c19] at H; have c19b0 : decide (0 ≤ (ji18)) = true := decide_eq_true c19; clear c19
       by_cases c20 : (ji18) < (l1.length : Int)
       ·
        rw [if_pos c20] at H; have c20b0 : decide ((ji18) < (l1.length : Int)) = true := decide_eq_true c20; clear c20
        by_cases c21 : (rdOf ByteArray.empty l1 (ji18)).size + 3 ≤ 9223372036854775807
        ·
         rw [if_pos c21] at H; have c21b0 := eq_true c21; have c21b1 : decide ((rdOf ByteArray.empty l1 (ji18)).size + 3 ≤ 9223372036854775807) = true := decide_eq_true c21
         try have c21b2 : (9223372036854775807 < (rdOf ByteArray.empty l1 (ji18)).size + 3) = False := eq_false (Nat.not_lt.2 c21)
         replace H := Option.bind_eq_some_iff.mp H; obtain ⟨t186, A220, H⟩ := H; (try dsimp only at H); have A22 := Aside0.mk A220; clear A220
         by_cases c23 : (rdOf ByteArray.empty l1 (ji18)).size + 3 + t186.size ≤ 9223372036854775807
         ·
          rw [if_pos c23] at H; have c23b0 := eq_true c23; have c23b1 : decide ((rdOf ByteArray.empty l1 (ji18)).size + 3 + t186.size ≤ 9223372036854775807) = true := decide_eq_true c23
          try have c23b2 : (9223372036854775807 < (rdOf ByteArray.empty l1 (ji18)).size + 3 + t186.size) = False := eq_false (Nat.not_lt.2 c23)
          obtain rfl := Option.some.inj H; have hcz24_0 := cl_ (v := .int .i64 a0_0) BK181 0; have hcz24_1 := cl_ (v := .int .i64 a0_1) BK181 1; have hfz24_0 := blk_frozen BK181.out 0; have hfz24_1 := blk_frozen BK181.out 1
          try go_wp2
          replace BK181 := bd_ BK181; replace HB := hd_ HB; have p185 : 0 ≤ ((ji18) : Int) := sq_dec; have q185 : (ji18) < (l1.length : Int) := sq_dec; obtain ⟨ad185, e185, hx185_0⟩ := Kd.at_string HR1.out (ji18) p185 q185; have hw185_0 := hx185_0; cases e185; replace hx185_0 := (HB.out.cell (World.block_lt_of_cell? w _ hx185_0)).trans hx185_0; replace p185 := eq_true p185; replace q185 := eq_true q185; refine start_ (n := 12) (S := fun w' => w'.cell? ⟨gb181, 0, none⟩ = some (.int .i64 a0_0) ∧ w'.cell? ⟨gb181, 1, none⟩ = some (.int .i64 a0_1) ∧ w'.cell? (ad185.add ((ji18)).toNat) = some (.string (rdOf ByteArray.empty l1 (ji18)))) (ds := []) #[false, false, false, false, false, false, false, false, false, false, false, false] (by kernel_rfl) rfl rfl ⟨cl_ BK181 0, cl_ BK181 1, ((HB.out.cell (World.block_lt_of_cell? w _ hw185_0)).trans hw185_0)⟩ (fun hHeld => ?_); refine with_tabW spec_SymText.tab6 spec_SymText.bits6 (fun HT_ HW_ => ?_); generalize wc.drew = w25 at BK181 HB hx185_0 hHeld ⊢; refine pure_y 0 (some 26) #[true, false, false, false, false, false, false, false, false, false, false, false] (any_of HT_.out (by kernel_rfl)) (h := ?_)
          refine pure_y 1 (some 27) #[true, true, false, false, false, false, false, false, false, false, false, false] (any_of HT_.out (by kernel_rfl)) (h := ?_)
          refine pure_y 7 (some 33) #[true, true, false, false, false, false, false, true, false, false, false, false] (any_of HT_.out (by kernel_rfl)) (h := ?_)
          refine take_y 2 (some 28) #[true, true, true, false, false, false, false, true, false, false, false, false] rfl (take_ofW HT_.out HW_.out (by kernel_rfl)) hHeld (Or.inl ⟨by rfl, (by rintro w' ⟨s0, s1, s2⟩; go_simp; with_reducible rfl)⟩) (h := ?_)
          refine pure_y 3 (some 29) #[true, true, true, true, false, false, false, true, false, false, false, false] (any_of HT_.out (by kernel_rfl)) (h := ?_)
          refine pure_y 4 (some 30) #[true, true, true, true, true, false, false, true, false, false, false, false] (any_of HT_.out (by kernel_rfl)) (h := ?_)
          refine take_y 5 (some 31) #[true, true, true, true, true, true, false, true, false, false, false, false] rfl (take_ofW HT_.out HW_.out (by kernel_rfl)) hHeld (Or.inl ⟨by rfl, (by rintro w' ⟨s0, s1, s2⟩; go_simp; with_reducible rfl)⟩) (h := ?_)
          refine pure_y 6 (some 32) #[true, true, true, true, true, true, true, true, false, false, false, false] (any_of HT_.out (by kernel_rfl)) (h := ?_)
          refine take_y 8 (some 34) #[true, true, true, true, true, true, true, true, true, false, false, false] rfl (take_ofW HT_.out HW_.out (by kernel_rfl)) hHeld (Or.inl ⟨by rfl, (by rintro w' ⟨s0, s1, s2⟩; go_simp; with_reducible rfl)⟩) (h := ?_)
          refine one_ (i := 9) (N := some 35) #[true, true, true, true, true, true, true, true, true, true, false, false] rfl rfl (one_of HT_.out (by kernel_rfl)) (by decide) (fun K hK => ?_); refine gs_ Tryz.func62 #[.int .i64 a0_1] (h := ?_); with_reducible refine (spec_l01Digits.calls kj2 a0_1 t186 _ A22.out).mono ?_
          rintro e w26 ⟨rfl, hb⟩; refine ⟨_, rfl, ?_⟩; replace BK181 := bb_ BK181 hb; replace HB := hb1_ HB hb GE181
          (try clear hb)
          (try clear hb2)
          (try clear hk)
          (try clear hi)
          refine hK.out _ _ ⟨cl_ BK181 0, cl_ BK181 1, ((HB.out.cell (World.block_lt_of_cell? w _ hw185_0)).trans hw185_0)⟩ (fun hHeld => ?_); clear hK K; refine norm_y 35 (h := ?_)
          refine pure_y 10 (some 36) #[true, true, true, true, true, true, true, true, true, true, true, false] (any_of HT_.out (by kernel_rfl)) (h := ?_)
          refine pure_y 11 (some 4) #[true, true, true, true, true, true, true, true, true, true, true, true] (any_of HT_.out (by kernel_rfl)) (h := ?_)
          refine done_ (done_of HT_.out (by kernel_rfl)) ?_
          try go_wp2
          go_ret
          exact ⟨by first | rfl | (simp [errW_none, errW_some] <;> rfl) | (simp only [← hji18]; first | rfl | (simp [errW_none, errW_some] <;> rfl)) | (simp [*, errW_none, errW_some] <;> rfl), sq_below1 HB.out GE181.out⟩
         ·
          rw [if_neg c23] at H; exact absurd H (by simp)
        ·
         rw [if_neg c21] at H; exact absurd H (by simp)
       ·
        rw [if_neg c20] at H; exact absurd H (by simp)
      ·
       rw [if_neg c19] at H; exact absurd H (by simp)
     ·
      rw [if_neg c17] at H; have c17b0 : decide (0 < a0_1) = false := decide_eq_false c17; clear c17
      by_cases c27 : a0_1 < 0
      ·
       rw [if_pos c27] at H; have c27b0 : decide (a0_1 < 0) = true := decide_eq_true c27; clear c27; obtain ⟨ji28, hji28⟩ : ∃ j_ : Int, (wrap64 (a0_0 - 1)) = j_ := ⟨_, rfl⟩; replace H : (if 0 ≤ (ji28) then (if (ji28) < (l1.length : Int) then (if (rdOf ByteArray.empty l1 (ji28)).size + 3 ≤ 9223372036854775807 then ((spec_l01Digits.f kj2 (wrap64 (-a0_1))).bind fun t188 => (if (rdOf ByteArray.empty l1 (ji28)).size + 3 + t188.size ≤ 9223372036854775807 then (some (((rdOf ByteArray.empty l1 (ji28)) ++ (⟨#[32, 45, 32]⟩ : ByteArray)) ++ t188)) else (none))) else (none)) else (none)) else (none)) = some r := by first | (rw [hji28] at H; exact H) | (simp only [hji28] at H ⊢; exact H)
       have hji28w : (IntKind.i64.wrap (a0_0 - 1)) = ji28 := (i64_w _).trans hji28
       by_cases c29 : 0 ≤ (ji28)
       ·
        rw [if_pos c29] at H; have c29b0 : decide (0 ≤ (ji28)) = true := decide_eq_true c29; clear c29
        by_cases c30 : (ji28) < (l1.length : Int)
        ·
         rw [if_pos c30] at H; have c30b0 : decide ((ji28) < (l1.length : Int)) = true := decide_eq_true c30; clear c30
         by_cases c31 : (rdOf ByteArray.empty l1 (ji28)).size + 3 ≤ 9223372036854775807
         ·
          rw [if_pos c31] at H; have c31b0 := eq_true c31; have c31b1 : decide ((rdOf ByteArray.empty l1 (ji28)).size + 3 ≤ 9223372036854775807) = true := decide_eq_true c31
          try have c31b2 : (9223372036854775807 < (rdOf ByteArray.empty l1 (ji28)).size + 3) = False := eq_false (Nat.not_lt.2 c31)
          replace H := Option.bind_eq_some_iff.mp H; obtain ⟨t188, A320, H⟩ := H; (try dsimp only at H); have A32 := Aside0.mk A320; clear A320
          by_cases c33 : (rdOf ByteArray.empty l1 (ji28)).size + 3 + t188.size ≤ 9223372036854775807
          ·
           rw [if_pos c33] at H; have c33b0 := eq_true c33; have c33b1 : decide ((rdOf ByteArray.empty l1 (ji28)).size + 3 + t188.size ≤ 9223372036854775807) = true := decide_eq_true c33
           try have c33b2 : (9223372036854775807 < (rdOf ByteArray.empty l1 (ji28)).size + 3 + t188.size) = False := eq_false (Nat.not_lt.2 c33)
           obtain rfl := Option.some.inj H; have hcz34_0 := cl_ (v := .int .i64 a0_0) BK181 0; have hcz34_1 := cl_ (v := .int .i64 a0_1) BK181 1; have hfz34_0 := blk_frozen BK181.out 0; have hfz34_1 := blk_frozen BK181.out 1
           try go_wp2
           replace BK181 := bd_ BK181; replace HB := hd_ HB; have p187 : 0 ≤ ((ji28) : Int) := sq_dec; have q187 : (ji28) < (l1.length : Int) := sq_dec; obtain ⟨ad187, e187, hx187_0⟩ := Kd.at_string HR1.out (ji28) p187 q187; have hw187_0 := hx187_0; cases e187; replace hx187_0 := (HB.out.cell (World.block_lt_of_cell? w _ hx187_0)).trans hx187_0; replace p187 := eq_true p187; replace q187 := eq_true q187; refine start_ (n := 13) (S := fun w' => w'.cell? ⟨gb181, 0, none⟩ = some (.int .i64 a0_0) ∧ w'.cell? ⟨gb181, 1, none⟩ = some (.int .i64 a0_1) ∧ w'.cell? (ad187.add ((ji28)).toNat) = some (.string (rdOf ByteArray.empty l1 (ji28)))) (ds := []) #[false, false, false, false, false, false, false, false, false, false, false, false, false] (by kernel_rfl) rfl rfl ⟨cl_ BK181 0, cl_ BK181 1, ((HB.out.cell (World.block_lt_of_cell? w _ hw187_0)).trans hw187_0)⟩ (fun hHeld => ?_); refine with_tabW spec_SymText.tab8 spec_SymText.bits8 (fun HT_ HW_ => ?_); generalize wc.drew = w35 at BK181 HB hx187_0 hHeld ⊢; refine pure_y 0 (some 41) #[true, false, false, false, false, false, false, false, false, false, false, false, false] (any_of HT_.out (by kernel_rfl)) (h := ?_)
           refine pure_y 1 (some 42) #[true, true, false, false, false, false, false, false, false, false, false, false, false] (any_of HT_.out (by kernel_rfl)) (h := ?_)
           refine pure_y 7 (some 48) #[true, true, false, false, false, false, false, true, false, false, false, false, false] (any_of HT_.out (by kernel_rfl)) (h := ?_)
           refine take_y 2 (some 43) #[true, true, true, false, false, false, false, true, false, false, false, false, false] rfl (take_ofW HT_.out HW_.out (by kernel_rfl)) hHeld (Or.inl ⟨by rfl, (by rintro w' ⟨s0, s1, s2⟩; go_simp; with_reducible rfl)⟩) (h := ?_)
           refine pure_y 3 (some 44) #[true, true, true, true, false, false, false, true, false, false, false, false, false] (any_of HT_.out (by kernel_rfl)) (h := ?_)
           refine pure_y 4 (some 45) #[true, true, true, true, true, false, false, true, false, false, false, false, false] (any_of HT_.out (by kernel_rfl)) (h := ?_)
           refine take_y 5 (some 46) #[true, true, true, true, true, true, false, true, false, false, false, false, false] rfl (take_ofW HT_.out HW_.out (by kernel_rfl)) hHeld (Or.inl ⟨by rfl, (by rintro w' ⟨s0, s1, s2⟩; go_simp; with_reducible rfl)⟩) (h := ?_)
           refine pure_y 6 (some 47) #[true, true, true, true, true, true, true, true, false, false, false, false, false] (any_of HT_.out (by kernel_rfl)) (h := ?_)
           refine take_y 8 (some 49) #[true, true, true, true, true, true, true, true, true, false, false, false, false] rfl (take_ofW HT_.out HW_.out (by kernel_rfl)) hHeld (Or.inl ⟨by rfl, (by rintro w' ⟨s0, s1, s2⟩; go_simp; with_reducible rfl)⟩) (h := ?_)
           refine pure_y 9 (some 50) #[true, true, true, true, true, true, true, true, true, true, false, false, false] (any_of HT_.out (by kernel_rfl)) (h := ?_)
           refine one_ (i := 10) (N := some 51) #[true, true, true, true, true, true, true, true, true, true, true, false, false] rfl rfl (one_of HT_.out (by kernel_rfl)) (by decide) (fun K hK => ?_); refine gs_ Tryz.func62 #[.int .i64 (wrap64 (-a0_1))] (h := ?_); with_reducible refine (spec_l01Digits.calls kj2 (wrap64 (-a0_1)) t188 _ A32.out).mono ?_
           rintro e w36 ⟨rfl, hb⟩; refine ⟨_, rfl, ?_⟩; replace BK181 := bb_ BK181 hb; replace HB := hb1_ HB hb GE181
           (try clear hb)
           (try clear hb2)
           (try clear hk)
           (try clear hi)
           refine hK.out _ _ ⟨cl_ BK181 0, cl_ BK181 1, ((HB.out.cell (World.block_lt_of_cell? w _ hw187_0)).trans hw187_0)⟩ (fun hHeld => ?_); clear hK K; refine norm_y 51 (h := ?_)
           refine pure_y 11 (some 52) #[true, true, true, true, true, true, true, true, true, true, true, true, false] (any_of HT_.out (by kernel_rfl)) (h := ?_)
           refine pure_y 12 (some 4) #[true, true, true, true, true, true, true, true, true, true, true, true, true] (any_of HT_.out (by kernel_rfl)) (h := ?_)
           refine done_ (done_of HT_.out (by kernel_rfl)) ?_
           try go_wp2
           go_ret
           exact ⟨by first | rfl | (simp [errW_none, errW_some] <;> rfl) | (simp only [← hji28]; first | rfl | (simp [errW_none, errW_some] <;> rfl)) | (simp [*, errW_none, errW_some] <;> rfl), sq_below1 HB.out GE181.out⟩
          ·
           rw [if_neg c33] at H; exact absurd H (by simp)
         ·
          rw [if_neg c31] at H; exact absurd H (by simp)
        ·
         rw [if_neg c30] at H; exact absurd H (by simp)
       ·
        rw [if_neg c29] at H; exact absurd H (by simp)
      ·
       rw [if_neg c27] at H; have c27b0 : decide (a0_1 < 0) = false := decide_eq_false c27; clear c27; obtain ⟨ji37, hji37⟩ : ∃ j_ : Int, (wrap64 (a0_0 - 1)) = j_ := ⟨_, rfl⟩; replace H : (if 0 ≤ (ji37) then (if (ji37) < (l1.length : Int) then (some (rdOf ByteArray.empty l1 (ji37))) else (none)) else (none)) = some r := by first | (rw [hji37] at H; exact H) | (simp only [hji37] at H ⊢; exact H)
       have hji37w : (IntKind.i64.wrap (a0_0 - 1)) = ji37 := (i64_w _).trans hji37
       by_cases c38 : 0 ≤ (ji37)
       ·
        rw [if_pos c38] at H; have c38b0 : decide (0 ≤ (ji37)) = true := decide_eq_true c38; clear c38
        by_cases c39 : (ji37) < (l1.length : Int)
        ·
         rw [if_pos c39] at H; have c39b0 : decide ((ji37) < (l1.length : Int)) = true := decide_eq_true c39; clear c39; obtain rfl := Option.some.inj H; have hcz40_0 := cl_ (v := .int .i64 a0_0) BK181 0; have hcz40_1 := cl_ (v := .int .i64 a0_1) BK181 1; have hfz40_0 := blk_frozen BK181.out 0; have hfz40_1 := blk_frozen BK181.out 1; have p189 : 0 ≤ ((ji37) : Int) := sq_dec; have q189 : (ji37) < (l1.length : Int) := sq_dec; obtain ⟨ad189, e189, hx189_0⟩ := Kd.at_string HR1.out (ji37) p189 q189; cases e189; replace hx189_0 := (HB.out.cell (World.block_lt_of_cell? w _ hx189_0)).trans hx189_0; replace p189 := eq_true p189; replace q189 := eq_true q189
         go_wp2
         go_ret
         exact ⟨by first | rfl | (simp [errW_none, errW_some] <;> rfl) | (simp only [← hji37]; first | rfl | (simp [errW_none, errW_some] <;> rfl)) | (simp [*, errW_none, errW_some] <;> rfl), sq_below HB.out⟩
        ·
         rw [if_neg c39] at H; exact absurd H (by simp)
       ·
        rw [if_neg c38] at H; exact absurd H (by simp)

end Go.Proofs.YtfeloencepgdlaaGreatDoor.Q
