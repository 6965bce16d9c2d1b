/- Functions of the translation as Lean functions, each with a proof that a call answers so; out of the seat, by this claim's own program prt.py. -/
import Derived.Test.YtmibaaicadgchaaDoorWTab
import Derived.Test.YtmibaaicadgchaaDoorWRepsOne
import Derived.Test.YtmibaaicadgchaaDoorQx0
import Derived.Test.YtmibaaicadgchaaDoorQx5
import Derived.Test.YtmibaaicadgchaaDoorQx6
import Derived.Test.YtmibaaicadgchaaDoorQx17
import Derived.Test.YtmibaaicadgchaaDoorQStep
namespace Go.Proofs.YtmibaaicadgchaaDoor.Q
open Go.RowKit Go.Proofs.YtmibaaicadgchaaDoorW.PrintWords Go.Proofs.YtmibaaicadgchaaDoorW.PrintLast Go.Proofs.YtmibaaicadgchaaDoorW.PrintMore
attribute [local go_sem] max2_int min2_int max_two min_two max_three min_three max_four min_four   -- for this text's walks alone
set_option linter.unusedVariables false
set_option linter.unusedSimpArgs false

/-! ### spec_RangeText: function 30 -/
def spec_RangeText.f (k : Nat) (a0_0 : Int) (a0_1 : Int) : Option (ByteArray) := (spec_RangeOk.f a0_0 a0_1).bind fun t521 => (if t521 = true then ((spec_l06Is.f a0_0 a0_1).bind fun t522 => (if t522 = true then ((spec_l01Digits.f k a0_0).bind fun t523 => (if t523.size + 2 ≤ 9223372036854775807 then ((spec_l01Digits.f k a0_1).bind fun t524 => (if t523.size + 2 + t524.size ≤ 9223372036854775807 then (some ((t523 ++ (⟨#[46, 46]⟩ : ByteArray)) ++ t524)) else (none))) else (none))) else (some (⟨#[110, 111, 110, 101]⟩ : ByteArray)))) else (some (⟨#[]⟩ : ByteArray)))
theorem spec_RangeText.mono : ∀ a0 a1 k, LeO (spec_RangeText.f k a0 a1) (spec_RangeText.f (k + 1) a0 a1) := by
 intro a0 a1 k; unfold spec_RangeText.f
 repeat' first
   | (with_reducible exact spec_l01Digits.mono _ _)
   | (with_reducible exact LeO.refl _)
   | (with_reducible exact LeO.none _)
   | (with_reducible refine LeO.ite ?_ ?_)
   | (with_reducible refine LeO.bind ?_ (fun _ => ?_))
   | exact spec_l01Digits.mono _ _
   | exact LeO.none _
   | refine LeO.ite ?_ ?_
   | refine LeO.bind ?_ (fun _ => ?_)
def spec_RangeText.T5 : Bool × List (List Nat × List Nat) := (true, [([], []), ([0], [0]), ([1], [1]), ([2], [2]), ([], []), ([4], [4]), ([5, 2], [5]), ([3, 6], [3, 6]), ([7, 6, 0, 1, 2, 3, 4, 5, 6, 7], [7])])
def spec_RangeText.B5 : List Nat := [0, 1, 3, 7, 0, 16, 55, 127, 255]
theorem spec_RangeText.tab5 : rtab .any (opsOf Tryd.f30 5) = spec_RangeText.T5 := by kernel_rfl
theorem spec_RangeText.bits5 : waitsOk spec_RangeText.T5.2 spec_RangeText.B5 = true := by kernel_rfl
set_option maxHeartbeats 8000000 in
set_option maxRecDepth 100000 in
theorem spec_RangeText.calls (k : Nat) (a0_0 : Int) (a0_1 : Int) (r : ByteArray) (w : World) (h : spec_RangeText.f k a0_0 a0_1 = some r) :
  Calls Tryd.prog 30 #[.agg #[.int .i64 a0_0, .int .i64 a0_1]] w fun e w' => e = .returned (.string r) ∧ Below w.heap.size w w' := by
 have hu25 := Tryd.underlying25; have HB := Aside0.mk (Below.refl w.heap.size w); have H : ((spec_RangeOk.f a0_0 a0_1).bind fun t521 => (if t521 = true then ((spec_l06Is.f a0_0 a0_1).bind fun t522 => (if t522 = true then ((spec_l01Digits.f k a0_0).bind fun t523 => (if t523.size + 2 ≤ 9223372036854775807 then ((spec_l01Digits.f k a0_1).bind fun t524 => (if t523.size + 2 + t524.size ≤ 9223372036854775807 then (some ((t523 ++ (⟨#[46, 46]⟩ : ByteArray)) ++ t524)) else (none))) else (none))) else (some (⟨#[110, 111, 110, 101]⟩ : ByteArray)))) else (some (⟨#[]⟩ : ByteArray)))) = some r := h; clear h; replace H := Option.bind_eq_some_iff.mp H; obtain ⟨t521, A20, H⟩ := H; (try dsimp only at H); have A2 := Aside0.mk A20; clear A20
 by_cases c3 : t521 = true
 ·
  subst c3; have H1 : ((spec_l06Is.f a0_0 a0_1).bind fun t522 => (if t522 = true then ((spec_l01Digits.f k a0_0).bind fun t523 => (if t523.size + 2 ≤ 9223372036854775807 then ((spec_l01Digits.f k a0_1).bind fun t524 => (if t523.size + 2 + t524.size ≤ 9223372036854775807 then (some ((t523 ++ (⟨#[46, 46]⟩ : ByteArray)) ++ t524)) else (none))) else (none))) else (some (⟨#[110, 111, 110, 101]⟩ : ByteArray)))) = some r := by rw [if_pos rfl] at H; exact H
  clear H; have H := H1; clear H1; replace H := Option.bind_eq_some_iff.mp H; obtain ⟨t522, A40, H⟩ := H; (try dsimp only at H); have A4 := Aside0.mk A40; clear A40
  by_cases c5 : t522 = true
  ·
   subst c5; have H1 : ((spec_l01Digits.f k a0_0).bind fun t523 => (if t523.size + 2 ≤ 9223372036854775807 then ((spec_l01Digits.f k a0_1).bind fun t524 => (if t523.size + 2 + t524.size ≤ 9223372036854775807 then (some ((t523 ++ (⟨#[46, 46]⟩ : ByteArray)) ++ t524)) else (none))) else (none))) = some r := by rw [if_pos rfl] at H; exact H
   clear H; have H := H1; clear H1; replace H := Option.bind_eq_some_iff.mp H; obtain ⟨t523, A60, H⟩ := H; (try dsimp only at H); have A6 := Aside0.mk A60; clear A60
   by_cases c7 : t523.size + 2 ≤ 9223372036854775807
   ·
    rw [if_pos c7] at H; have c7b0 := eq_true c7; have c7b1 : decide (t523.size + 2 ≤ 9223372036854775807) = true := decide_eq_true c7
    try have c7b2 : (9223372036854775807 < t523.size + 2) = False := eq_false (Nat.not_lt.2 c7)
    replace H := Option.bind_eq_some_iff.mp H; obtain ⟨t524, A80, H⟩ := H; (try dsimp only at H); have A8 := Aside0.mk A80; clear A80
    by_cases c9 : t523.size + 2 + t524.size ≤ 9223372036854775807
    ·
     rw [if_pos c9] at H; have c9b0 := eq_true c9; have c9b1 : decide (t523.size + 2 + t524.size ≤ 9223372036854775807) = true := decide_eq_true c9
     try have c9b2 : (9223372036854775807 < t523.size + 2 + t524.size) = False := eq_false (Nat.not_lt.2 c9)
     obtain rfl := Option.some.inj H
     go_enter Tryd.func30, Tryd.ntmps30
     try go_wp2_with (first | ((with_reducible refine gate_dst (N := 1) rfl ?_); refine box_event ?hg (N := 1) ?hd (cs := #[.int .i64 a0_0, .int .i64 a0_1]) (t := 25) ?hr ?_; (case hd => rfl); (case hg => rfl); (case hr => first | (go_simp; done) | (go_simp; rfl)); intro gb520 hg w10 hbox hb; have n0_ := Aside0.mk (below_step (sq_below HB.out) hb); have n1_ := Aside0.mk (hbox); have n2_ := Aside0.mk ((by rw [hg]; exact (below_size (sq_below HB.out)) : w.heap.size ≤ gb520)); have n3_ := Aside0.mk ((by rw [hg]; exact (below_size (sq_below HB.out)) : w.heap.size ≤ gb520)); clear HB; have HB := n0_; have BK520 := n1_; have GW520 := n2_; have GE520 := n3_; clear n0_ n1_ n2_ n3_; clear hb hbox hg; have hcz11_0 := cl_ (v := .int .i64 a0_0) BK520 0; have hcz11_1 := cl_ (v := .int .i64 a0_1) BK520 1; have hfz11_0 := blk_frozen BK520.out 0; have hfz11_1 := blk_frozen BK520.out 1) | ((with_reducible refine gate_callee (f := 16) rfl ?_); refine gl_ 5 Tryd.func16 #[.agg #[.int .i64 a0_0, .int .i64 a0_1]] (h := ?_); (with_reducible refine (spec_RangeOk.calls a0_0 a0_1 true _ A2.out).mono ?_); rintro e w12 ⟨rfl, hb⟩; refine ⟨_, rfl, ?_⟩; replace BK520 := bb_ BK520 hb; replace HB := hb1_ HB hb GE520; (try clear hb); (try clear hb2); (try clear hk); (try clear hi); have hcz13_0 := cl_ (v := .int .i64 a0_0) BK520 0; have hcz13_1 := cl_ (v := .int .i64 a0_1) BK520 1; have hfz13_0 := blk_frozen BK520.out 0; have hfz13_1 := blk_frozen BK520.out 1) | ((with_reducible refine gate_callee (f := 55) rfl ?_); refine gl_ 9 Tryd.func55 #[.agg #[.int .i64 a0_0, .int .i64 a0_1]] (h := ?_); (with_reducible refine (spec_l06Is.calls a0_0 a0_1 true _ A4.out).mono ?_); rintro e w14 ⟨rfl, hb⟩; refine ⟨_, rfl, ?_⟩; replace BK520 := bb_ BK520 hb; replace HB := hb1_ HB hb GE520; (try clear hb); (try clear hb2); (try clear hk); (try clear hi)))
     replace BK520 := bd_ BK520; replace HB := hd_ HB; refine start_ (n := 9) (S := fun w' => w'.cell? ⟨gb520, 0, none⟩ = some (.int .i64 a0_0) ∧ w'.cell? ⟨gb520, 1, none⟩ = some (.int .i64 a0_1)) (ds := []) #[false, false, false, false, false, false, false, false, false] (by kernel_rfl) rfl rfl ⟨cl_ BK520 0, cl_ BK520 1⟩ (fun hHeld => ?_); refine with_tabW spec_RangeText.tab5 spec_RangeText.bits5 (fun HT_ HW_ => ?_); generalize w14.drew = w15 at BK520 HB hHeld ⊢; refine pure_y 0 (some 11) #[true, false, false, false, false, false, false, false, false] (any_of HT_.out (by kernel_rfl)) (h := ?_)
     refine pure_y 4 (some 15) #[true, false, false, false, true, false, false, false, false] (any_of HT_.out (by kernel_rfl)) (h := ?_)
     refine take_y 1 (some 12) #[true, true, false, false, true, false, false, false, false] rfl (take_ofW HT_.out HW_.out (by kernel_rfl)) hHeld (Or.inl ⟨by rfl, (by rintro w' ⟨s0, s1⟩; go_simp; with_reducible rfl)⟩) (h := ?_)
     refine take_y 5 (some 16) #[true, true, false, false, true, true, false, false, false] rfl (take_ofW HT_.out HW_.out (by kernel_rfl)) hHeld (Or.inl ⟨by rfl, (by rintro w' ⟨s0, s1⟩; go_simp; with_reducible rfl)⟩) (h := ?_)
     refine one_ (i := 2) (N := some 13) #[true, true, true, false, true, true, false, false, false] rfl rfl (one_of HT_.out (by kernel_rfl)) (by decide) (fun K hK => ?_); refine gs_ Tryd.func62 #[.int .i64 a0_0] (h := ?_); with_reducible refine (spec_l01Digits.calls k a0_0 t523 _ A6.out).mono ?_
     rintro e w16 ⟨rfl, hb⟩; refine ⟨_, rfl, ?_⟩; replace BK520 := bb_ BK520 hb; replace HB := hb1_ HB hb GE520
     (try clear hb)
     (try clear hb2)
     (try clear hk)
     (try clear hi)
     refine hK.out _ _ ⟨cl_ BK520 0, cl_ BK520 1⟩ (fun hHeld => ?_); clear hK K; refine norm_ (a' := ?_) ?_ ?_; rotate_left
     ·
      show Act.put _ (some 13) _ = _; simp only [Act.put, List.setIfInBounds_toArray, List.set_cons_zero, List.set_cons_succ, i64_w, i32_w]; rfl
     refine pure_y 3 (some 14) #[true, true, true, true, true, true, false, false, false] (any_of HT_.out (by kernel_rfl)) (h := ?_)
     refine one_ (i := 6) (N := some 17) #[true, true, true, true, true, true, true, false, false] rfl rfl (one_of HT_.out (by kernel_rfl)) (by decide) (fun K hK => ?_); refine gs_ Tryd.func62 #[.int .i64 a0_1] (h := ?_); with_reducible refine (spec_l01Digits.calls k a0_1 t524 _ A8.out).mono ?_
     rintro e w17 ⟨rfl, hb⟩; refine ⟨_, rfl, ?_⟩; replace BK520 := bb_ BK520 hb; replace HB := hb1_ HB hb GE520
     (try clear hb)
     (try clear hb2)
     (try clear hk)
     (try clear hi)
     refine hK.out _ _ ⟨cl_ BK520 0, cl_ BK520 1⟩ (fun hHeld => ?_); clear hK K; refine norm_ (a' := ?_) ?_ ?_; rotate_left
     ·
      show Act.put _ (some 17) _ = _; simp only [Act.put, List.setIfInBounds_toArray, List.set_cons_zero, List.set_cons_succ, i64_w, i32_w]; rfl
     refine pure_y 7 (some 18) #[true, true, true, true, true, true, true, true, false] (any_of HT_.out (by kernel_rfl)) (h := ?_)
     refine pure_y 8 (some 2) #[true, true, true, true, true, true, true, true, true] (any_of HT_.out (by kernel_rfl)) (h := ?_)
     refine done_ (done_of HT_.out (by kernel_rfl)) ?_
     try go_wp2
     go_ret
     exact ⟨by first | rfl | (simp [errW_none, errW_some] <;> rfl) | (simp [*, errW_none, errW_some] <;> rfl), by repeat (first | (with_reducible first | exact HB.out | apply below_alloc | apply pw_below_drewN | apply below_drew1 | refine below_set ?_ GE520.out) | exact HB.out)⟩
    ·
     rw [if_neg c9] at H; exact absurd H (by simp)
   ·
    rw [if_neg c7] at H; exact absurd H (by simp)
  ·
   replace c5 := Bool.eq_false_iff.mpr c5; subst c5; have H1 : (some (⟨#[110, 111, 110, 101]⟩ : ByteArray)) = some r := by rw [if_neg (show ¬ (false = true) by decide)] at H; exact H
   clear H; have H := H1; clear H1; obtain rfl := Option.some.inj H
   go_enter Tryd.func30, Tryd.ntmps30
   go_wp2_with (first | ((with_reducible refine gate_dst (N := 1) rfl ?_); refine box_event ?hg (N := 1) ?hd (cs := #[.int .i64 a0_0, .int .i64 a0_1]) (t := 25) ?hr ?_; (case hd => rfl); (case hg => rfl); (case hr => first | (go_simp; done) | (go_simp; rfl)); intro gb520 hg w18 hbox hb; have n0_ := Aside0.mk (below_step (sq_below HB.out) hb); have n1_ := Aside0.mk (hbox); have n2_ := Aside0.mk ((by rw [hg]; exact (below_size (sq_below HB.out)) : w.heap.size ≤ gb520)); have n3_ := Aside0.mk ((by rw [hg]; exact (below_size (sq_below HB.out)) : w.heap.size ≤ gb520)); clear HB; have HB := n0_; have BK520 := n1_; have GW520 := n2_; have GE520 := n3_; clear n0_ n1_ n2_ n3_; clear hb hbox hg; have hcz19_0 := cl_ (v := .int .i64 a0_0) BK520 0; have hcz19_1 := cl_ (v := .int .i64 a0_1) BK520 1; have hfz19_0 := blk_frozen BK520.out 0; have hfz19_1 := blk_frozen BK520.out 1) | ((with_reducible refine gate_callee (f := 16) rfl ?_); refine gl_ 5 Tryd.func16 #[.agg #[.int .i64 a0_0, .int .i64 a0_1]] (h := ?_); (with_reducible refine (spec_RangeOk.calls a0_0 a0_1 true _ A2.out).mono ?_); rintro e w20 ⟨rfl, hb⟩; refine ⟨_, rfl, ?_⟩; replace BK520 := bb_ BK520 hb; replace HB := hb1_ HB hb GE520; (try clear hb); (try clear hb2); (try clear hk); (try clear hi); have hcz21_0 := cl_ (v := .int .i64 a0_0) BK520 0; have hcz21_1 := cl_ (v := .int .i64 a0_1) BK520 1; have hfz21_0 := blk_frozen BK520.out 0; have hfz21_1 := blk_frozen BK520.out 1) | ((with_reducible refine gate_callee (f := 55) rfl ?_); refine gl_ 9 Tryd.func55 #[.agg #[.int .i64 a0_0, .int .i64 a0_1]] (h := ?_); (with_reducible refine (spec_l06Is.calls a0_0 a0_1 false _ A4.out).mono ?_); rintro e w22 ⟨rfl, hb⟩; refine ⟨_, rfl, ?_⟩; replace HB := hb_ HB hb; (try clear hb); (try clear hb2); (try clear hk); (try clear hi)))
   go_ret
   exact ⟨by first | rfl | (simp [errW_none, errW_some] <;> rfl) | (simp [*, errW_none, errW_some] <;> rfl), by repeat (first | (with_reducible first | exact HB.out | apply below_alloc | apply pw_below_drewN | apply below_drew1) | exact HB.out)⟩
 ·
  replace c3 := Bool.eq_false_iff.mpr c3; subst c3; have H1 : (some (⟨#[]⟩ : ByteArray)) = some r := by rw [if_neg (show ¬ (false = true) by decide)] at H; exact H
  clear H; have H := H1; clear H1; obtain rfl := Option.some.inj H
  go_enter Tryd.func30, Tryd.ntmps30
  go_wp2_with (first | ((with_reducible refine gate_dst (N := 1) rfl ?_); refine box_event ?hg (N := 1) ?hd (cs := #[.int .i64 a0_0, .int .i64 a0_1]) (t := 25) ?hr ?_; (case hd => rfl); (case hg => rfl); (case hr => first | (go_simp; done) | (go_simp; rfl)); intro gb520 hg w23 hbox hb; have n0_ := Aside0.mk (below_step (sq_below HB.out) hb); have n1_ := Aside0.mk (hbox); have n2_ := Aside0.mk ((by rw [hg]; exact (below_size (sq_below HB.out)) : w.heap.size ≤ gb520)); have n3_ := Aside0.mk ((by rw [hg]; exact (below_size (sq_below HB.out)) : w.heap.size ≤ gb520)); clear HB; have HB := n0_; have BK520 := n1_; have GW520 := n2_; have GE520 := n3_; clear n0_ n1_ n2_ n3_; clear hb hbox hg; have hcz24_0 := cl_ (v := .int .i64 a0_0) BK520 0; have hcz24_1 := cl_ (v := .int .i64 a0_1) BK520 1; have hfz24_0 := blk_frozen BK520.out 0; have hfz24_1 := blk_frozen BK520.out 1) | ((with_reducible refine gate_callee (f := 16) rfl ?_); refine gl_ 5 Tryd.func16 #[.agg #[.int .i64 a0_0, .int .i64 a0_1]] (h := ?_); (with_reducible refine (spec_RangeOk.calls a0_0 a0_1 false _ A2.out).mono ?_); rintro e w25 ⟨rfl, hb⟩; refine ⟨_, rfl, ?_⟩; replace HB := hb_ HB hb; (try clear hb); (try clear hb2); (try clear hk); (try clear hi)))
  go_ret
  exact ⟨by first | rfl | (simp [errW_none, errW_some] <;> rfl) | (simp [*, errW_none, errW_some] <;> rfl), by repeat (first | (with_reducible first | exact HB.out | apply below_alloc | apply pw_below_drewN | apply below_drew1) | exact HB.out)⟩

end Go.Proofs.YtmibaaicadgchaaDoor.Q
