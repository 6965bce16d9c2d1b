/- Functions of the translation as Lean functions, each with a proof that a call answers so; out of the seat, by this claim's own program prt.py. -/
import Derived.Test.YtfeloencepgdlaaGreatDoorWTab
import Derived.Test.YtfeloencepgdlaaGreatDoorWRepsOne
import Derived.Test.YtfeloencepgdlaaGreatDoorQx0
import Derived.Test.YtfeloencepgdlaaGreatDoorQx2
import Derived.Test.YtfeloencepgdlaaGreatDoorQx19
import Derived.Test.YtfeloencepgdlaaGreatDoorQx25
import Derived.Test.YtfeloencepgdlaaGreatDoorQStep
namespace Go.Proofs.YtfeloencepgdlaaGreatDoor.Q
open Go.RowKit Go.Proofs.YtfeloencepgdlaaGreatDoorW.PrintWords Go.Proofs.YtfeloencepgdlaaGreatDoorW.PrintLast Go.Proofs.YtfeloencepgdlaaGreatDoorW.PrintMore
attribute [local go_sem] max2_int min2_int max_two min_two max_three min_three max_four min_four   -- for this text's walks alone
set_option linter.unusedVariables false
set_option linter.unusedSimpArgs false

attribute [local go_sem high] eqA64
/-! ### impl_RangeText: function 78 -/
def impl_RangeText.f (a0_0 : Int) (a0_1 : Int) : Option (ByteArray) := (impl_RangeOk.f a0_0 a0_1).bind fun t348 => (if t348 = true then (if (a0_0 == 1 && (a0_1 == 0)) = true then (some (⟨#[110, 111, 110, 101]⟩ : ByteArray)) else ((strconv_Itoa.f a0_0).bind fun t349 => (if t349.size + 2 ≤ 9223372036854775807 then ((strconv_Itoa.f a0_1).bind fun t350 => (if t349.size + 2 + t350.size ≤ 9223372036854775807 then (some ((t349 ++ (⟨#[46, 46]⟩ : ByteArray)) ++ t350)) else (none))) else (none)))) else (some (⟨#[]⟩ : ByteArray)))
def impl_RangeText.T5 : Bool × List (List Nat × List Nat) := (true, [([], []), ([0], [0]), ([1], [1]), ([2], [2]), ([], []), ([4], [4]), ([5, 2], [5]), ([3, 6], [3, 6]), ([7, 6, 0, 1, 2, 3, 4, 5, 6, 7], [7])])
def impl_RangeText.B5 : List Nat := [0, 1, 3, 7, 0, 16, 55, 127, 255]
theorem impl_RangeText.tab5 : rtab .any (opsOf Tryz.f78 5) = impl_RangeText.T5 := by kernel_rfl
theorem impl_RangeText.bits5 : waitsOk impl_RangeText.T5.2 impl_RangeText.B5 = true := by kernel_rfl
set_option maxHeartbeats 8000000 in
set_option maxRecDepth 100000 in
theorem impl_RangeText.calls (a0_0 : Int) (a0_1 : Int) (r : ByteArray) (w : World) (hG0 : GL0 w) (hG4 : GL4 w) (h : impl_RangeText.f a0_0 a0_1 = some r) :
  Calls Tryz.prog 78 #[.agg #[.int .i64 a0_0, .int .i64 a0_1]] w fun e w' => e = .returned (.string r) ∧ Below w.heap.size w w' := by
 have hu64 := Tryz.underlying64; have HB := Aside0.mk (Below.refl w.heap.size w); have HG0 := Aside0.mk hG0; clear hG0; have HG4 := Aside0.mk hG4; clear hG4; have H : ((impl_RangeOk.f a0_0 a0_1).bind fun t348 => (if t348 = true then (if (a0_0 == 1 && (a0_1 == 0)) = true then (some (⟨#[110, 111, 110, 101]⟩ : ByteArray)) else ((strconv_Itoa.f a0_0).bind fun t349 => (if t349.size + 2 ≤ 9223372036854775807 then ((strconv_Itoa.f a0_1).bind fun t350 => (if t349.size + 2 + t350.size ≤ 9223372036854775807 then (some ((t349 ++ (⟨#[46, 46]⟩ : ByteArray)) ++ t350)) else (none))) else (none)))) else (some (⟨#[]⟩ : ByteArray)))) = some r := h; clear h; replace H := Option.bind_eq_some_iff.mp H; obtain ⟨t348, A20, H⟩ := H; (try dsimp only at H); have A2 := Aside0.mk A20; clear A20
 by_cases c3 : t348 = true
 ·
  subst c3; have H1 := ifp_ H
  clear H; have H := H1; clear H1
  by_cases c4 : (a0_0 == 1 && (a0_1 == 0)) = true
  ·
   rw [if_pos c4] at H; have c4b0 : (a0_0 == 1 && (a0_1 == 0)) = true := c4
   (try (have c4b1 : decide (a0_0 = 1 && (a0_1 == 0)) = true := by simpa using c4))
   (try (have c4b2 : (a0_0 == 1 && (a0_1 == 0)) = true := by simpa using c4))
   clear c4; obtain rfl := Option.some.inj H
   go_enter Tryz.func78, Tryz.ntmps78
   go_wp2_with (first | ((with_reducible refine gate_dst (N := 1) rfl ?_); refine box_y 1 #[.int .i64 a0_0, .int .i64 a0_1] 64 (h := ?_); intro gb347 hg w5 hbox hb; have n0_ := Aside0.mk (below_step (sq_below HB.out) hb); have n1_ := Aside0.mk (hbox); have n2_ := ge_ hg (below_size (sq_below HB.out)); have n3_ := ge_ hg (below_size (sq_below HB.out)); clear HB; have HB := n0_; have BK347 := n1_; have GW347 := n2_; have GE347 := n3_; clear n0_ n1_ n2_ n3_; clear hb hbox hg; have hcz6_0 := cl_ (v := .int .i64 a0_0) BK347 0; have hcz6_1 := cl_ (v := .int .i64 a0_1) BK347 1; have hfz6_0 := blk_frozen BK347.out 0; have hfz6_1 := blk_frozen BK347.out 1) | ((with_reducible refine gate_callee (f := 68) rfl ?_); refine gl_ 5 Tryz.func68 #[.agg #[.int .i64 a0_0, .int .i64 a0_1]] (h := ?_); (with_reducible refine (impl_RangeOk.calls a0_0 a0_1 true _ ?side1 A2.out).mono ?_); (case side1 => exact GL0.below HG0.out (sq_below1 HB.out GE347.out)); rintro e w7 ⟨rfl, hb⟩; refine ⟨_, rfl, ?_⟩; replace BK347 := bb_ BK347 hb; replace HB := hb1_ HB hb GE347; (try clear hb); have hcz8_0 := cl_ (v := .int .i64 a0_0) BK347 0; have hcz8_1 := cl_ (v := .int .i64 a0_1) BK347 1; have hfz8_0 := blk_frozen BK347.out 0; have hfz8_1 := blk_frozen BK347.out 1; have hgl9_0 : w7.cell? ⟨0, 0, none⟩ = some (.int .i64 1) := GL0.c0 (GL0.below HG0.out HB.out); have hgl9_1 : w7.cell? ⟨0, 1, none⟩ = some (.int .i64 0) := GL0.c1 (GL0.below HG0.out HB.out)))
   go_ret
   exact ⟨by first | rfl | (simp [errW_none, errW_some] <;> rfl) | (simp [*, errW_none, errW_some] <;> rfl), sq_below HB.out⟩
  ·
   rw [if_neg c4] at H; have c4b0 : (a0_0 == 1 && (a0_1 == 0)) = false := by simpa using c4
   (try (have c4b1 : decide (a0_0 = 1 && (a0_1 == 0)) = false := by simpa using c4))
   (try (have c4b2 : (a0_0 == 1 && (a0_1 == 0)) = false := by simpa using c4))
   (try (have c4b3 : ¬ (a0_0 = 1 && (a0_1 == 0)) := by simpa using c4))
   clear c4; replace H := Option.bind_eq_some_iff.mp H; obtain ⟨t349, A100, H⟩ := H; (try dsimp only at H); have A10 := Aside0.mk A100; clear A100
   by_cases c11 : t349.size + 2 ≤ 9223372036854775807
   ·
    rw [if_pos c11] at H; have c11b0 := eq_true c11; have c11b1 : decide (t349.size + 2 ≤ 9223372036854775807) = true := decide_eq_true c11
    try have c11b2 : (9223372036854775807 < t349.size + 2) = False := eq_false (Nat.not_lt.2 c11)
    replace H := Option.bind_eq_some_iff.mp H; obtain ⟨t350, A120, H⟩ := H; (try dsimp only at H); have A12 := Aside0.mk A120; clear A120
    by_cases c13 : t349.size + 2 + t350.size ≤ 9223372036854775807
    ·
     rw [if_pos c13] at H; have c13b0 := eq_true c13; have c13b1 : decide (t349.size + 2 + t350.size ≤ 9223372036854775807) = true := decide_eq_true c13
     try have c13b2 : (9223372036854775807 < t349.size + 2 + t350.size) = False := eq_false (Nat.not_lt.2 c13)
     obtain rfl := Option.some.inj H
     go_enter Tryz.func78, Tryz.ntmps78
     try go_wp2_with (first | ((with_reducible refine gate_dst (N := 1) rfl ?_); refine box_y 1 #[.int .i64 a0_0, .int .i64 a0_1] 64 (h := ?_); intro gb347 hg w14 hbox hb; have n0_ := Aside0.mk (below_step (sq_below HB.out) hb); have n1_ := Aside0.mk (hbox); have n2_ := ge_ hg (below_size (sq_below HB.out)); have n3_ := ge_ hg (below_size (sq_below HB.out)); clear HB; have HB := n0_; have BK347 := n1_; have GW347 := n2_; have GE347 := n3_; clear n0_ n1_ n2_ n3_; clear hb hbox hg; have hcz15_0 := cl_ (v := .int .i64 a0_0) BK347 0; have hcz15_1 := cl_ (v := .int .i64 a0_1) BK347 1; have hfz15_0 := blk_frozen BK347.out 0; have hfz15_1 := blk_frozen BK347.out 1) | ((with_reducible refine gate_callee (f := 68) rfl ?_); refine gl_ 5 Tryz.func68 #[.agg #[.int .i64 a0_0, .int .i64 a0_1]] (h := ?_); (with_reducible refine (impl_RangeOk.calls a0_0 a0_1 true _ ?side1 A2.out).mono ?_); (case side1 => exact GL0.below HG0.out (sq_below1 HB.out GE347.out)); rintro e w16 ⟨rfl, hb⟩; refine ⟨_, rfl, ?_⟩; replace BK347 := bb_ BK347 hb; replace HB := hb1_ HB hb GE347; (try clear hb); have hcz17_0 := cl_ (v := .int .i64 a0_0) BK347 0; have hcz17_1 := cl_ (v := .int .i64 a0_1) BK347 1; have hfz17_0 := blk_frozen BK347.out 0; have hfz17_1 := blk_frozen BK347.out 1; have hgl18_0 : w16.cell? ⟨0, 0, none⟩ = some (.int .i64 1) := GL0.c0 (GL0.below HG0.out HB.out); have hgl18_1 : w16.cell? ⟨0, 1, none⟩ = some (.int .i64 0) := GL0.c1 (GL0.below HG0.out HB.out); have hnggl18_347 : gb347 ≠ 0 := (by first | exact Nat.ne_of_gt (Nat.lt_of_lt_of_le (World.block_lt_of_cell? _ _ (GL0.c0 HG0.out)) GE347.out) | exact Nat.ne_of_gt (Nat.lt_of_lt_of_le (World.block_lt_of_cell? _ _ (GL0.c0 HG0.out)) GW347.out)); have hnhgl18_347 := Ne.symm hnggl18_347))
     replace BK347 := bd_ BK347; replace HB := hd_ HB; refine start_ (n := 9) (S := fun w' => w'.cell? ⟨gb347, 0, none⟩ = some (.int .i64 a0_0) ∧ w'.cell? ⟨gb347, 1, none⟩ = some (.int .i64 a0_1)) (ds := []) #[false, false, false, false, false, false, false, false, false] (by kernel_rfl) rfl rfl ⟨cl_ BK347 0, cl_ BK347 1⟩ (fun hHeld => ?_); refine with_tabW impl_RangeText.tab5 impl_RangeText.bits5 (fun HT_ HW_ => ?_); generalize w16.drew = w19 at BK347 HB hHeld ⊢; refine pure_y 0 (some 11) #[true, false, false, false, false, false, false, false, false] (any_of HT_.out (by kernel_rfl)) (h := ?_)
     refine pure_y 4 (some 15) #[true, false, false, false, true, false, false, false, false] (any_of HT_.out (by kernel_rfl)) (h := ?_)
     refine take_y 1 (some 12) #[true, true, false, false, true, false, false, false, false] rfl (take_ofW HT_.out HW_.out (by kernel_rfl)) hHeld (Or.inl ⟨by rfl, (by rintro w' ⟨s0, s1⟩; go_simp; with_reducible rfl)⟩) (h := ?_)
     refine take_y 5 (some 16) #[true, true, false, false, true, true, false, false, false] rfl (take_ofW HT_.out HW_.out (by kernel_rfl)) hHeld (Or.inl ⟨by rfl, (by rintro w' ⟨s0, s1⟩; go_simp; with_reducible rfl)⟩) (h := ?_)
     refine one_ (i := 2) (N := some 13) #[true, true, true, false, true, true, false, false, false] rfl rfl (one_of HT_.out (by kernel_rfl)) (by decide) (fun K hK => ?_); refine gs_ Tryz.func79 #[.int .i64 a0_0] (h := ?_); with_reducible refine (strconv_Itoa.calls a0_0 t349 _ ?side1 A10.out).mono ?_
     (case side1 => exact GL4.below HG4.out (sq_below1 HB.out GE347.out))
     rintro e w20 ⟨rfl, hb⟩; refine ⟨_, rfl, ?_⟩; replace BK347 := bb_ BK347 hb; replace HB := hb1_ HB hb GE347
     (try clear hb)
     (try clear hb2)
     (try clear hk)
     (try clear hi)
     refine hK.out _ _ ⟨cl_ BK347 0, cl_ BK347 1⟩ (fun hHeld => ?_); clear hK K; refine norm_y 13 (h := ?_)
     refine pure_y 3 (some 14) #[true, true, true, true, true, true, false, false, false] (any_of HT_.out (by kernel_rfl)) (h := ?_)
     refine one_ (i := 6) (N := some 17) #[true, true, true, true, true, true, true, false, false] rfl rfl (one_of HT_.out (by kernel_rfl)) (by decide) (fun K hK => ?_); refine gs_ Tryz.func79 #[.int .i64 a0_1] (h := ?_); with_reducible refine (strconv_Itoa.calls a0_1 t350 _ ?side1 A12.out).mono ?_
     (case side1 => exact GL4.below HG4.out (sq_below1 HB.out GE347.out))
     rintro e w21 ⟨rfl, hb⟩; refine ⟨_, rfl, ?_⟩; replace BK347 := bb_ BK347 hb; replace HB := hb1_ HB hb GE347
     (try clear hb)
     (try clear hb2)
     (try clear hk)
     (try clear hi)
     refine hK.out _ _ ⟨cl_ BK347 0, cl_ BK347 1⟩ (fun hHeld => ?_); clear hK K; refine norm_y 17 (h := ?_)
     refine pure_y 7 (some 18) #[true, true, true, true, true, true, true, true, false] (any_of HT_.out (by kernel_rfl)) (h := ?_)
     refine pure_y 8 (some 2) #[true, true, true, true, true, true, true, true, true] (any_of HT_.out (by kernel_rfl)) (h := ?_)
     refine done_ (done_of HT_.out (by kernel_rfl)) ?_
     try go_wp2
     go_ret
     exact ⟨by first | rfl | (simp [errW_none, errW_some] <;> rfl) | (simp [*, errW_none, errW_some] <;> rfl), sq_below1 HB.out GE347.out⟩
    ·
     rw [if_neg c13] at H; exact absurd H (by simp)
   ·
    rw [if_neg c11] at H; exact absurd H (by simp)
 ·
  replace c3 := Bool.eq_false_iff.mpr c3; subst c3; have H1 := ifn_ H
  clear H; have H := H1; clear H1; obtain rfl := Option.some.inj H
  go_enter Tryz.func78, Tryz.ntmps78
  go_wp2_with (first | ((with_reducible refine gate_dst (N := 1) rfl ?_); refine box_y 1 #[.int .i64 a0_0, .int .i64 a0_1] 64 (h := ?_); intro gb347 hg w22 hbox hb; have n0_ := Aside0.mk (below_step (sq_below HB.out) hb); have n1_ := Aside0.mk (hbox); have n2_ := ge_ hg (below_size (sq_below HB.out)); have n3_ := ge_ hg (below_size (sq_below HB.out)); clear HB; have HB := n0_; have BK347 := n1_; have GW347 := n2_; have GE347 := n3_; clear n0_ n1_ n2_ n3_; clear hb hbox hg; have hcz23_0 := cl_ (v := .int .i64 a0_0) BK347 0; have hcz23_1 := cl_ (v := .int .i64 a0_1) BK347 1; have hfz23_0 := blk_frozen BK347.out 0; have hfz23_1 := blk_frozen BK347.out 1) | ((with_reducible refine gate_callee (f := 68) rfl ?_); refine gl_ 5 Tryz.func68 #[.agg #[.int .i64 a0_0, .int .i64 a0_1]] (h := ?_); (with_reducible refine (impl_RangeOk.calls a0_0 a0_1 false _ ?side1 A2.out).mono ?_); (case side1 => exact GL0.below HG0.out (sq_below HB.out)); rintro e w24 ⟨rfl, hb⟩; refine ⟨_, rfl, ?_⟩; replace HB := hb_ HB hb; (try clear hb)))
  go_ret
  exact ⟨by first | rfl | (simp [errW_none, errW_some] <;> rfl) | (simp [*, errW_none, errW_some] <;> rfl), sq_below HB.out⟩

/-! ### impl_ValText: function 52 -/
def impl_ValText.j0 : Nat → Bool → Int → Int → Bool → Option (ByteArray)
 | 0, _, _, _, _ => none
 | k + 1, x9, x352000, x352001, x352002 => if x9 = true then ((impl_RangeText.f x352000 x352001).bind fun t353 => (some t353)) else ((impl_RangeText.f x352000 x352001).bind fun t354 => (if t354.size + 13 ≤ 9223372036854775807 then (some (t354 ++ (⟨#[32, 111, 114, 32, 117, 110, 119, 114, 105, 116, 116, 101, 110]⟩ : ByteArray))) else (none)))
def impl_ValText.f (k : Nat) (a0_0 : Int) (a0_1 : Int) (a0_2 : Bool) : Option (ByteArray) := (impl_ValOk.f a0_0 a0_1 a0_2).bind fun t352 => (if t352 = true then (impl_ValText.j0 k a0_2 a0_0 a0_1 a0_2) else (impl_ValText.j0 k true a0_0 a0_1 a0_2))
theorem impl_ValText.mono_l : ∀ k, (∀ y0 y1 y2 y3, LeO (impl_ValText.j0 k y0 y1 y2 y3) (impl_ValText.j0 (k + 1) y0 y1 y2 y3))
 | 0 => fun _ _ _ _ r h => by simp [impl_ValText.j0] at h
 | k + 1 => by
  have ih0 := impl_ValText.mono_l k
  ·
   intro y0 y1 y2 y3; unfold impl_ValText.j0
   repeat' first
   | (with_reducible exact ih0 _ _ _ _)
   | (with_reducible exact LeO.refl _)
   | (with_reducible exact LeO.none _)
   | (with_reducible refine LeO.ite ?_ ?_)
   | (with_reducible refine LeO.bind ?_ (fun _ => ?_))
   | exact ih0 _ _ _ _
   | exact LeO.none _
   | refine LeO.ite ?_ ?_
   | refine LeO.bind ?_ (fun _ => ?_)
theorem impl_ValText.mono : ∀ a0 a1 a2 k, LeO (impl_ValText.f k a0 a1 a2) (impl_ValText.f (k + 1) a0 a1 a2) := by
 intro a0 a1 a2 k; have ih0 := impl_ValText.mono_l k; unfold impl_ValText.f
 repeat' first
   | (with_reducible exact ih0 _ _ _ _)
   | (with_reducible exact LeO.refl _)
   | (with_reducible exact LeO.none _)
   | (with_reducible refine LeO.ite ?_ ?_)
   | (with_reducible refine LeO.bind ?_ (fun _ => ?_))
   | exact ih0 _ _ _ _
   | exact LeO.none _
   | refine LeO.ite ?_ ?_
   | refine LeO.bind ?_ (fun _ => ?_)
set_option maxHeartbeats 8000000 in
set_option maxRecDepth 100000 in
theorem impl_ValText.calls (k : Nat) (a0_0 : Int) (a0_1 : Int) (a0_2 : Bool) (r : ByteArray) (w : World) (hG0 : GL0 w) (hG4 : GL4 w) (h : impl_ValText.f k a0_0 a0_1 a0_2 = some r) :
  Calls Tryz.prog 52 #[.agg #[.int .i64 a0_0, .int .i64 a0_1, .bool a0_2]] w fun e w' => e = .returned (.string r) ∧ Below w.heap.size w w' := by
 have hu66 := Tryz.underlying66; have hu64 := Tryz.underlying64; have HB := Aside0.mk (Below.refl w.heap.size w); have HG0 := Aside0.mk hG0; clear hG0; have HG4 := Aside0.mk hG4; clear hG4; have H : ((impl_ValOk.f a0_0 a0_1 a0_2).bind fun t352 => (if t352 = true then (impl_ValText.j0 k a0_2 a0_0 a0_1 a0_2) else (impl_ValText.j0 k true a0_0 a0_1 a0_2))) = some r := h; clear h; have HC2 := Aside0.mk H; clear H
 go_enter Tryz.func52, Tryz.ntmps52
 go_upto_region 1 with (first | ((with_reducible refine gate_dst (N := 1) rfl ?_); refine box_y 1 #[.int .i64 a0_0, .int .i64 a0_1, .bool a0_2] 66 (h := ?_); intro gb351 hg w3 hbox hb; have n0_ := Aside0.mk (below_step (sq_below HB.out) hb); have n1_ := Aside0.mk (hbox); have n2_ := ge_ hg (below_size (sq_below HB.out)); have n3_ := ge_ hg (below_size (sq_below HB.out)); clear HB; have HB := n0_; have BK351 := n1_; have GW351 := n2_; have GE351 := n3_; clear n0_ n1_ n2_ n3_; clear hb hbox hg))
 (try simp only [Act.put, List.setIfInBounds_toArray, List.set_cons_zero, List.set_cons_succ])
 go_cut [9] (fun v9 wc => ∃ (kq : Nat) (x9_1 : Bool), v9 = .bool x9_1 ∧ Aside0 (impl_ValText.j0 kq x9_1 a0_0 a0_1 a0_2 = some r) ∧ Aside0 (kq ≤ k) ∧ Aside0 (wc.heap[gb351]? = some (.cells #[.int .i64 a0_0, .int .i64 a0_1, .bool a0_2] 66 (0, 0))) ∧ Aside0 (Below w.heap.size w wc))
 case first =>
  have H := HC2.out; clear HC2; replace H := Option.bind_eq_some_iff.mp H; obtain ⟨t352, A40, H⟩ := H; (try dsimp only at H); have A4 := Aside0.mk A40; clear A40
  by_cases c5 : t352 = true
  ·
   subst c5; have H1 := ifp_ H
   clear H; have H := H1; clear H1; have H' := Aside0.mk H; clear H; have hcz6_0 := cl_ (v := .int .i64 a0_0) BK351 0; have hcz6_1 := cl_ (v := .int .i64 a0_1) BK351 1; have hcz6_2 := cl_ (v := .bool a0_2) BK351 2; have hfz6_0 := blk_frozen BK351.out 0; have hfz6_1 := blk_frozen BK351.out 1; have hfz6_2 := blk_frozen BK351.out 2
   go_wp2_with (first | ((with_reducible refine gate_callee (f := 46) rfl ?_); refine gl_ 4 Tryz.func46 #[.agg #[.int .i64 a0_0, .int .i64 a0_1, .bool a0_2]] (h := ?_); (with_reducible refine (impl_ValOk.calls a0_0 a0_1 a0_2 true _ ?side1 A4.out).mono ?_); (case side1 => exact GL0.below HG0.out (sq_below1 HB.out GE351.out)); rintro e w7 ⟨rfl, hb⟩; refine ⟨_, rfl, ?_⟩; replace BK351 := bb_ BK351 hb; replace HB := hb1_ HB hb GE351; (try clear hb); have hcz8_0 := cl_ (v := .int .i64 a0_0) BK351 0; have hcz8_1 := cl_ (v := .int .i64 a0_1) BK351 1; have hcz8_2 := cl_ (v := .bool a0_2) BK351 2; have hfz8_0 := blk_frozen BK351.out 0; have hfz8_1 := blk_frozen BK351.out 1; have hfz8_2 := blk_frozen BK351.out 2))
   go_meet
   case rel => exact ⟨_, (a0_2), (by first | rfl | (simp; done) | (simp [*]; done)), H', ⟨by first | omega | exact Nat.le_refl _⟩, bk_ BK351, ⟨sq_below1 HB.out GE351.out⟩⟩
  ·
   replace c5 := Bool.eq_false_iff.mpr c5; subst c5; have H1 := ifn_ H
   clear H; have H := H1; clear H1; have H' := Aside0.mk H; clear H; have hcz9_0 := cl_ (v := .int .i64 a0_0) BK351 0; have hcz9_1 := cl_ (v := .int .i64 a0_1) BK351 1; have hcz9_2 := cl_ (v := .bool a0_2) BK351 2; have hfz9_0 := blk_frozen BK351.out 0; have hfz9_1 := blk_frozen BK351.out 1; have hfz9_2 := blk_frozen BK351.out 2
   go_wp2_with (first | ((with_reducible refine gate_callee (f := 46) rfl ?_); refine gl_ 4 Tryz.func46 #[.agg #[.int .i64 a0_0, .int .i64 a0_1, .bool a0_2]] (h := ?_); (with_reducible refine (impl_ValOk.calls a0_0 a0_1 a0_2 false _ ?side1 A4.out).mono ?_); (case side1 => exact GL0.below HG0.out (sq_below1 HB.out GE351.out)); rintro e w10 ⟨rfl, hb⟩; refine ⟨_, rfl, ?_⟩; replace BK351 := bb_ BK351 hb; replace HB := hb1_ HB hb GE351; (try clear hb)))
   go_meet
   case rel => exact ⟨_, (true), (by first | rfl | (simp; done) | (simp [*]; done)), H', ⟨by first | omega | exact Nat.le_refl _⟩, bk_ BK351, ⟨sq_below1 HB.out GE351.out⟩⟩
 case rest =>
  clear HC2
  try clear p2
  try clear c4
  try clear c5
  try clear hcz6_0
  try clear hcz6_1
  try clear hcz6_2
  try clear hcz8_0
  try clear hcz8_1
  try clear hcz8_2
  try clear hcz9_0
  try clear hcz9_1
  try clear hcz9_2
  try clear hfz6_0
  try clear hfz6_1
  try clear hfz6_2
  try clear hfz8_0
  try clear hfz8_1
  try clear hfz8_2
  try clear hfz9_0
  try clear hfz9_1
  try clear hfz9_2
  obtain ⟨kq, x9_1, rfl, HA, HJ1, BK351, HB⟩ := hcut; cases kq with
  | zero => exact absurd HA.out (by simp [impl_ValText.j0])
  | succ kj1 =>
   have H := HA.out; clear HA; simp only [impl_ValText.j0] at H
   by_cases c11 : x9_1 = true
   ·
    subst c11; have H1 := ifp_ H
    clear H; have H := H1; clear H1; replace H := Option.bind_eq_some_iff.mp H; obtain ⟨t353, A120, H⟩ := H; replace H : (some t353) = some r := H; have A12 := Aside0.mk A120; clear A120; obtain rfl := Option.some.inj H; have hcz13_0 := cl_ (v := .int .i64 a0_0) BK351 0; have hcz13_1 := cl_ (v := .int .i64 a0_1) BK351 1; have hcz13_2 := cl_ (v := .bool a0_2) BK351 2; have hfz13_0 := blk_frozen BK351.out 0; have hfz13_1 := blk_frozen BK351.out 1; have hfz13_2 := blk_frozen BK351.out 2
    go_wp2_with (first | ((with_reducible refine gate_callee (f := 78) rfl ?_); refine gl_ 12 Tryz.func78 #[.agg #[.int .i64 a0_0, .int .i64 a0_1]] (h := ?_); (with_reducible refine (impl_RangeText.calls a0_0 a0_1 t353 _ ?side1 ?side2 A12.out).mono ?_); (case side1 => exact GL0.below HG0.out (sq_below HB.out)); (case side2 => exact GL4.below HG4.out (sq_below HB.out)); rintro e w14 ⟨rfl, hb⟩; refine ⟨_, rfl, ?_⟩; replace HB := hb_ HB hb; (try clear hb)))
    go_ret
    exact ⟨by first | rfl | (simp [errW_none, errW_some] <;> rfl) | (simp [*, errW_none, errW_some] <;> rfl), sq_below HB.out⟩
   ·
    replace c11 := Bool.eq_false_iff.mpr c11; subst c11; have H1 := ifn_ H
    clear H; have H := H1; clear H1; replace H := Option.bind_eq_some_iff.mp H; obtain ⟨t354, A150, H⟩ := H; (try dsimp only at H); have A15 := Aside0.mk A150; clear A150
    by_cases c16 : t354.size + 13 ≤ 9223372036854775807
    ·
     rw [if_pos c16] at H; have c16b0 := eq_true c16; have c16b1 : decide (t354.size + 13 ≤ 9223372036854775807) = true := decide_eq_true c16
     try have c16b2 : (9223372036854775807 < t354.size + 13) = False := eq_false (Nat.not_lt.2 c16)
     obtain rfl := Option.some.inj H; have hcz17_0 := cl_ (v := .int .i64 a0_0) BK351 0; have hcz17_1 := cl_ (v := .int .i64 a0_1) BK351 1; have hcz17_2 := cl_ (v := .bool a0_2) BK351 2; have hfz17_0 := blk_frozen BK351.out 0; have hfz17_1 := blk_frozen BK351.out 1; have hfz17_2 := blk_frozen BK351.out 2
     go_wp2_with (first | ((with_reducible refine gate_callee (f := 78) rfl ?_); refine gl_ 15 Tryz.func78 #[.agg #[.int .i64 a0_0, .int .i64 a0_1]] (h := ?_); (with_reducible refine (impl_RangeText.calls a0_0 a0_1 t354 _ ?side1 ?side2 A15.out).mono ?_); (case side1 => exact GL0.below HG0.out (sq_below HB.out)); (case side2 => exact GL4.below HG4.out (sq_below HB.out)); rintro e w18 ⟨rfl, hb⟩; refine ⟨_, rfl, ?_⟩; replace HB := hb_ HB hb; (try clear hb)))
     go_ret
     exact ⟨by first | rfl | (simp [errW_none, errW_some] <;> rfl) | (simp [*, errW_none, errW_some] <;> rfl), sq_below HB.out⟩
    ·
     rw [if_neg c16] at H; exact absurd H (by simp)

end Go.Proofs.YtfeloencepgdlaaGreatDoor.Q
