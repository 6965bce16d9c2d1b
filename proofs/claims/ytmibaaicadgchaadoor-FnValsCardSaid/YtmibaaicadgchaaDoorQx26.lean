/- Functions of the translation as Lean functions, each with a proof that a call answers so; out of the seat, by this claim's own program prt.py. -/
import Derived.Test.YtmibaaicadgchaaDoorWTab
import Derived.Test.YtmibaaicadgchaaDoorWRepsOne
import Derived.Test.YtmibaaicadgchaaDoorQx0
import Derived.Test.YtmibaaicadgchaaDoorQx1
import Derived.Test.YtmibaaicadgchaaDoorQx5
import Derived.Test.YtmibaaicadgchaaDoorQStep
namespace Go.Proofs.YtmibaaicadgchaaDoor.Q
open Go.RowKit Go.Proofs.YtmibaaicadgchaaDoorW.PrintWords Go.Proofs.YtmibaaicadgchaaDoorW.PrintLast Go.Proofs.YtmibaaicadgchaaDoorW.PrintMore
attribute [local go_sem] max2_int min2_int max_two min_two max_three min_three max_four min_four   -- for this text's walks alone
set_option linter.unusedVariables false
set_option linter.unusedSimpArgs false

attribute [local go_sem high] eqA25
/-! ### impl_RangeLeq: function 28 -/
def impl_RangeLeq.f (a0_0 : Int) (a0_1 : Int) (a1_0 : Int) (a1_1 : Int) : Option (Bool) := (impl_RangeOk.f a0_0 a0_1).bind fun t503 => (if t503 = true then ((impl_RangeOk.f a1_0 a1_1).bind fun t504 => (if t504 = true then (if (a0_0 == 1 && (a0_1 == 0)) = true then (some true) else (if (!(a1_0 == 1) || (!(a1_1 == 0))) = true then (if a1_0 ≤ a0_0 then (some (decide (a0_1 ≤ a1_1))) else (some false)) else (some false))) else (some false))) else (some false))
set_option maxHeartbeats 8000000 in
set_option maxRecDepth 100000 in
theorem impl_RangeLeq.calls (a0_0 : Int) (a0_1 : Int) (a1_0 : Int) (a1_1 : Int) (r : Bool) (w : World) (hG0 : GL0 w) (h : impl_RangeLeq.f a0_0 a0_1 a1_0 a1_1 = some r) :
  Calls Tryd.prog 28 #[.agg #[.int .i64 a0_0, .int .i64 a0_1], .agg #[.int .i64 a1_0, .int .i64 a1_1]] w fun e w' => e = .returned (.bool r) ∧ Below w.heap.size w w' := by
 have hu25 := Tryd.underlying25; have HB := Aside0.mk (Below.refl w.heap.size w); have HG0 := Aside0.mk hG0; clear hG0; have H : ((impl_RangeOk.f a0_0 a0_1).bind fun t503 => (if t503 = true then ((impl_RangeOk.f a1_0 a1_1).bind fun t504 => (if t504 = true then (if (a0_0 == 1 && (a0_1 == 0)) = true then (some true) else (if (!(a1_0 == 1) || (!(a1_1 == 0))) = true then (if a1_0 ≤ a0_0 then (some (decide (a0_1 ≤ a1_1))) else (some false)) else (some false))) else (some false))) else (some false))) = some r := h; clear h; replace H := Option.bind_eq_some_iff.mp H; obtain ⟨t503, A30, H⟩ := H; (try dsimp only at H); have A3 := Aside0.mk A30; clear A30
 by_cases c4 : t503 = true
 ·
  subst c4; have H1 := ifp_ H
  clear H; have H := H1; clear H1; replace H := Option.bind_eq_some_iff.mp H; obtain ⟨t504, A50, H⟩ := H; (try dsimp only at H); have A5 := Aside0.mk A50; clear A50
  by_cases c6 : t504 = true
  ·
   subst c6; have H1 := ifp_ H
   clear H; have H := H1; clear H1
   by_cases c7 : (a0_0 == 1 && (a0_1 == 0)) = true
   ·
    rw [if_pos c7] at H; have c7b0 : (a0_0 == 1 && (a0_1 == 0)) = true := c7
    (try (have c7b1 : decide (a0_0 = 1 && (a0_1 == 0)) = true := by simpa using c7))
    (try (have c7b2 : (a0_0 == 1 && (a0_1 == 0)) = true := by simpa using c7))
    clear c7; obtain rfl := Option.some.inj H
    go_enter Tryd.func28, Tryd.ntmps28
    go_wp2_with (first | ((with_reducible refine gate_dst (N := 2) rfl ?_); refine box_y 2 #[.int .i64 a0_0, .int .i64 a0_1] 25 (h := ?_); intro gb501 hg w8 hbox hb; have n0_ := Aside0.mk (below_step (sq_below HB.out) hb); have n1_ := Aside0.mk (hbox); have n2_ := ge_ hg (below_size (sq_below HB.out)); have n3_ := ge_ hg (below_size (sq_below HB.out)); clear HB; have HB := n0_; have BK501 := n1_; have GW501 := n2_; have GE501 := n3_; clear n0_ n1_ n2_ n3_; clear hb hbox hg) | ((with_reducible refine gate_dst (N := 3) rfl ?_); refine box_y 3 #[.int .i64 a1_0, .int .i64 a1_1] 25 (h := ?_); intro gb502 hg w9 hbox hb; have n0_ := Aside0.mk (blk_below (sq_blk BK501.out) hb); have n1_ := Aside0.mk (below_step (sq_below1 HB.out GE501.out) hb); have n2_ := Aside0.mk (hbox); have n3_ := ge_ hg (below_size (sq_below1 HB.out GE501.out)); have n4_ := ge_ hg (below_size (sq_below1 HB.out GE501.out)); have n5_ := nb_ hg BK501; have n6_ := Aside0.mk (Ne.symm n5_.out); clear BK501; clear HB; have BK501 := n0_; have HB := n1_; have BK502 := n2_; have GW502 := n3_; have GE502 := n4_; have NB501_502 := n5_; have NB502_501 := n6_; clear n0_ n1_ n2_ n3_ n4_ n5_ n6_; clear hb hbox hg; have hnb10 := NB501_502.out; have hnc10 := NB502_501.out; have hcz11_0 := cl_ (v := .int .i64 a0_0) BK501 0; have hcz11_1 := cl_ (v := .int .i64 a0_1) BK501 1; have hfz11_0 := blk_frozen BK501.out 0; have hfz11_1 := blk_frozen BK501.out 1) | ((with_reducible refine gate_callee (f := 57) rfl ?_); refine gl_ 6 Tryd.func57 #[.agg #[.int .i64 a0_0, .int .i64 a0_1]] (h := ?_); (with_reducible refine (impl_RangeOk.calls a0_0 a0_1 true _ ?side1 A3.out).mono ?_); (case side1 => exact GL0.below HG0.out (sq_below2 HB.out GE501.out GE502.out)); rintro e w12 ⟨rfl, hb⟩; refine ⟨_, rfl, ?_⟩; replace BK501 := bb_ BK501 hb; replace BK502 := bb_ BK502 hb; replace HB := hb2_ HB hb GE501 GE502; (try clear hb); have hcz13_0 := cl_ (v := .int .i64 a1_0) BK502 0; have hcz13_1 := cl_ (v := .int .i64 a1_1) BK502 1; have hfz13_0 := blk_frozen BK502.out 0; have hfz13_1 := blk_frozen BK502.out 1) | (go_at_call 57; (with_reducible refine (impl_RangeOk.calls a1_0 a1_1 true _ ?side1 A5.out).mono ?_); (case side1 => exact GL0.below HG0.out (sq_below1 HB.out GE501.out)); rintro e w14 ⟨rfl, hb⟩; replace BK501 := bb_ BK501 hb; replace HB := hb1_ HB hb GE501; (try clear hb); have hcz15_0 := cl_ (v := .int .i64 a0_0) BK501 0; have hcz15_1 := cl_ (v := .int .i64 a0_1) BK501 1; have hfz15_0 := blk_frozen BK501.out 0; have hfz15_1 := blk_frozen BK501.out 1; have hgl16_0 : w14.cell? ⟨0, 0, none⟩ = some (.int .i64 1) := GL0.c0 (GL0.below HG0.out HB.out); have hgl16_1 : w14.cell? ⟨0, 1, none⟩ = some (.int .i64 0) := GL0.c1 (GL0.below HG0.out HB.out)))
    go_ret
    exact ⟨by first | rfl | (simp [errW_none, errW_some] <;> rfl) | (simp [*, errW_none, errW_some] <;> rfl), by repeat (first | (with_reducible first | exact HB.out | apply below_alloc | apply pw_below_drewN | apply below_drew1) | exact HB.out)⟩
   ·
    rw [if_neg c7] at H; have c7b0 : (a0_0 == 1 && (a0_1 == 0)) = false := by simpa using c7
    (try (have c7b1 : decide (a0_0 = 1 && (a0_1 == 0)) = false := by simpa using c7))
    (try (have c7b2 : (a0_0 == 1 && (a0_1 == 0)) = false := by simpa using c7))
    (try (have c7b3 : ¬ (a0_0 = 1 && (a0_1 == 0)) := by simpa using c7))
    clear c7
    by_cases c17 : (!(a1_0 == 1) || (!(a1_1 == 0))) = true
    ·
     rw [if_pos c17] at H; have c17b0 : (!(a1_0 == 1) || (!(a1_1 == 0))) = true := c17; clear c17
     by_cases c18 : a1_0 ≤ a0_0
     ·
      rw [if_pos c18] at H; have c18b0 : decide (a1_0 ≤ a0_0) = true := decide_eq_true c18; clear c18; obtain rfl := Option.some.inj H
      go_enter Tryd.func28, Tryd.ntmps28
      go_wp2_with (first | ((with_reducible refine gate_dst (N := 2) rfl ?_); refine box_y 2 #[.int .i64 a0_0, .int .i64 a0_1] 25 (h := ?_); intro gb501 hg w19 hbox hb; have n0_ := Aside0.mk (below_step (sq_below HB.out) hb); have n1_ := Aside0.mk (hbox); have n2_ := ge_ hg (below_size (sq_below HB.out)); have n3_ := ge_ hg (below_size (sq_below HB.out)); clear HB; have HB := n0_; have BK501 := n1_; have GW501 := n2_; have GE501 := n3_; clear n0_ n1_ n2_ n3_; clear hb hbox hg) | ((with_reducible refine gate_dst (N := 3) rfl ?_); refine box_y 3 #[.int .i64 a1_0, .int .i64 a1_1] 25 (h := ?_); intro gb502 hg w20 hbox hb; have n0_ := Aside0.mk (blk_below (sq_blk BK501.out) hb); have n1_ := Aside0.mk (below_step (sq_below1 HB.out GE501.out) hb); have n2_ := Aside0.mk (hbox); have n3_ := ge_ hg (below_size (sq_below1 HB.out GE501.out)); have n4_ := ge_ hg (below_size (sq_below1 HB.out GE501.out)); have n5_ := nb_ hg BK501; have n6_ := Aside0.mk (Ne.symm n5_.out); clear BK501; clear HB; have BK501 := n0_; have HB := n1_; have BK502 := n2_; have GW502 := n3_; have GE502 := n4_; have NB501_502 := n5_; have NB502_501 := n6_; clear n0_ n1_ n2_ n3_ n4_ n5_ n6_; clear hb hbox hg; have hnb21 := NB501_502.out; have hnc21 := NB502_501.out; have hcz22_0 := cl_ (v := .int .i64 a0_0) BK501 0; have hcz22_1 := cl_ (v := .int .i64 a0_1) BK501 1; have hfz22_0 := blk_frozen BK501.out 0; have hfz22_1 := blk_frozen BK501.out 1) | ((with_reducible refine gate_callee (f := 57) rfl ?_); refine gl_ 6 Tryd.func57 #[.agg #[.int .i64 a0_0, .int .i64 a0_1]] (h := ?_); (with_reducible refine (impl_RangeOk.calls a0_0 a0_1 true _ ?side1 A3.out).mono ?_); (case side1 => exact GL0.below HG0.out (sq_below2 HB.out GE501.out GE502.out)); rintro e w23 ⟨rfl, hb⟩; refine ⟨_, rfl, ?_⟩; replace BK501 := bb_ BK501 hb; replace BK502 := bb_ BK502 hb; replace HB := hb2_ HB hb GE501 GE502; (try clear hb); have hcz24_0 := cl_ (v := .int .i64 a1_0) BK502 0; have hcz24_1 := cl_ (v := .int .i64 a1_1) BK502 1; have hfz24_0 := blk_frozen BK502.out 0; have hfz24_1 := blk_frozen BK502.out 1) | (go_at_call 57; (with_reducible refine (impl_RangeOk.calls a1_0 a1_1 true _ ?side1 A5.out).mono ?_); (case side1 => exact GL0.below HG0.out (sq_below2 HB.out GE501.out GE502.out)); rintro e w25 ⟨rfl, hb⟩; replace BK501 := bb_ BK501 hb; replace BK502 := bb_ BK502 hb; replace HB := hb2_ HB hb GE501 GE502; (try clear hb); have hcz26_0 := cl_ (v := .int .i64 a0_0) BK501 0; have hcz26_1 := cl_ (v := .int .i64 a0_1) BK501 1; have hfz26_0 := blk_frozen BK501.out 0; have hfz26_1 := blk_frozen BK501.out 1; have hgl27_0 : w25.cell? ⟨0, 0, none⟩ = some (.int .i64 1) := GL0.c0 (GL0.below HG0.out HB.out); have hgl27_1 : w25.cell? ⟨0, 1, none⟩ = some (.int .i64 0) := GL0.c1 (GL0.below HG0.out HB.out); have hnggl27_501 : gb501 ≠ 0 := (by first | exact Nat.ne_of_gt (Nat.lt_of_lt_of_le (World.block_lt_of_cell? _ _ (GL0.c0 HG0.out)) GE501.out) | exact Nat.ne_of_gt (Nat.lt_of_lt_of_le (World.block_lt_of_cell? _ _ (GL0.c0 HG0.out)) GW501.out)); have hnhgl27_501 := Ne.symm hnggl27_501; have hnggl27_502 : gb502 ≠ 0 := (by first | exact Nat.ne_of_gt (Nat.lt_of_lt_of_le (World.block_lt_of_cell? _ _ (GL0.c0 HG0.out)) GE502.out) | exact Nat.ne_of_gt (Nat.lt_of_lt_of_le (World.block_lt_of_cell? _ _ (GL0.c0 HG0.out)) GW502.out)); have hnhgl27_502 := Ne.symm hnggl27_502; have hcz28_0 := cl_ (v := .int .i64 a1_0) BK502 0; have hcz28_1 := cl_ (v := .int .i64 a1_1) BK502 1; have hfz28_0 := blk_frozen BK502.out 0; have hfz28_1 := blk_frozen BK502.out 1))
      go_ret
      exact ⟨by first | rfl | (simp [errW_none, errW_some] <;> rfl) | (simp [*, errW_none, errW_some] <;> rfl), by repeat (first | (with_reducible first | exact HB.out | apply below_alloc | apply pw_below_drewN | apply below_drew1 | refine below_set ?_ GE502.out) | exact HB.out)⟩
     ·
      rw [if_neg c18] at H; have c18b0 : decide (a1_0 ≤ a0_0) = false := decide_eq_false c18; clear c18; obtain rfl := Option.some.inj H
      go_enter Tryd.func28, Tryd.ntmps28
      go_wp2_with (first | ((with_reducible refine gate_dst (N := 2) rfl ?_); refine box_y 2 #[.int .i64 a0_0, .int .i64 a0_1] 25 (h := ?_); intro gb501 hg w29 hbox hb; have n0_ := Aside0.mk (below_step (sq_below HB.out) hb); have n1_ := Aside0.mk (hbox); have n2_ := ge_ hg (below_size (sq_below HB.out)); have n3_ := ge_ hg (below_size (sq_below HB.out)); clear HB; have HB := n0_; have BK501 := n1_; have GW501 := n2_; have GE501 := n3_; clear n0_ n1_ n2_ n3_; clear hb hbox hg) | ((with_reducible refine gate_dst (N := 3) rfl ?_); refine box_y 3 #[.int .i64 a1_0, .int .i64 a1_1] 25 (h := ?_); intro gb502 hg w30 hbox hb; have n0_ := Aside0.mk (blk_below (sq_blk BK501.out) hb); have n1_ := Aside0.mk (below_step (sq_below1 HB.out GE501.out) hb); have n2_ := Aside0.mk (hbox); have n3_ := ge_ hg (below_size (sq_below1 HB.out GE501.out)); have n4_ := ge_ hg (below_size (sq_below1 HB.out GE501.out)); have n5_ := nb_ hg BK501; have n6_ := Aside0.mk (Ne.symm n5_.out); clear BK501; clear HB; have BK501 := n0_; have HB := n1_; have BK502 := n2_; have GW502 := n3_; have GE502 := n4_; have NB501_502 := n5_; have NB502_501 := n6_; clear n0_ n1_ n2_ n3_ n4_ n5_ n6_; clear hb hbox hg; have hnb31 := NB501_502.out; have hnc31 := NB502_501.out; have hcz32_0 := cl_ (v := .int .i64 a0_0) BK501 0; have hcz32_1 := cl_ (v := .int .i64 a0_1) BK501 1; have hfz32_0 := blk_frozen BK501.out 0; have hfz32_1 := blk_frozen BK501.out 1) | ((with_reducible refine gate_callee (f := 57) rfl ?_); refine gl_ 6 Tryd.func57 #[.agg #[.int .i64 a0_0, .int .i64 a0_1]] (h := ?_); (with_reducible refine (impl_RangeOk.calls a0_0 a0_1 true _ ?side1 A3.out).mono ?_); (case side1 => exact GL0.below HG0.out (sq_below2 HB.out GE501.out GE502.out)); rintro e w33 ⟨rfl, hb⟩; refine ⟨_, rfl, ?_⟩; replace BK501 := bb_ BK501 hb; replace BK502 := bb_ BK502 hb; replace HB := hb2_ HB hb GE501 GE502; (try clear hb); have hcz34_0 := cl_ (v := .int .i64 a1_0) BK502 0; have hcz34_1 := cl_ (v := .int .i64 a1_1) BK502 1; have hfz34_0 := blk_frozen BK502.out 0; have hfz34_1 := blk_frozen BK502.out 1) | (go_at_call 57; (with_reducible refine (impl_RangeOk.calls a1_0 a1_1 true _ ?side1 A5.out).mono ?_); (case side1 => exact GL0.below HG0.out (sq_below2 HB.out GE501.out GE502.out)); rintro e w35 ⟨rfl, hb⟩; replace BK501 := bb_ BK501 hb; replace BK502 := bb_ BK502 hb; replace HB := hb2_ HB hb GE501 GE502; (try clear hb); have hcz36_0 := cl_ (v := .int .i64 a0_0) BK501 0; have hcz36_1 := cl_ (v := .int .i64 a0_1) BK501 1; have hfz36_0 := blk_frozen BK501.out 0; have hfz36_1 := blk_frozen BK501.out 1; have hgl37_0 : w35.cell? ⟨0, 0, none⟩ = some (.int .i64 1) := GL0.c0 (GL0.below HG0.out HB.out); have hgl37_1 : w35.cell? ⟨0, 1, none⟩ = some (.int .i64 0) := GL0.c1 (GL0.below HG0.out HB.out); have hnggl37_501 : gb501 ≠ 0 := (by first | exact Nat.ne_of_gt (Nat.lt_of_lt_of_le (World.block_lt_of_cell? _ _ (GL0.c0 HG0.out)) GE501.out) | exact Nat.ne_of_gt (Nat.lt_of_lt_of_le (World.block_lt_of_cell? _ _ (GL0.c0 HG0.out)) GW501.out)); have hnhgl37_501 := Ne.symm hnggl37_501; have hnggl37_502 : gb502 ≠ 0 := (by first | exact Nat.ne_of_gt (Nat.lt_of_lt_of_le (World.block_lt_of_cell? _ _ (GL0.c0 HG0.out)) GE502.out) | exact Nat.ne_of_gt (Nat.lt_of_lt_of_le (World.block_lt_of_cell? _ _ (GL0.c0 HG0.out)) GW502.out)); have hnhgl37_502 := Ne.symm hnggl37_502; have hcz38_0 := cl_ (v := .int .i64 a1_0) BK502 0; have hcz38_1 := cl_ (v := .int .i64 a1_1) BK502 1; have hfz38_0 := blk_frozen BK502.out 0; have hfz38_1 := blk_frozen BK502.out 1))
      go_ret
      exact ⟨by first | rfl | (simp [errW_none, errW_some] <;> rfl) | (simp [*, errW_none, errW_some] <;> rfl), by repeat (first | (with_reducible first | exact HB.out | apply below_alloc | apply pw_below_drewN | apply below_drew1 | refine below_set ?_ GE501.out) | exact HB.out)⟩
    ·
     rw [if_neg c17] at H; have c17b0 : (!(a1_0 == 1) || (!(a1_1 == 0))) = false := by simpa using c17
     clear c17; obtain rfl := Option.some.inj H
     go_enter Tryd.func28, Tryd.ntmps28
     go_wp2_with (first | ((with_reducible refine gate_dst (N := 2) rfl ?_); refine box_y 2 #[.int .i64 a0_0, .int .i64 a0_1] 25 (h := ?_); intro gb501 hg w39 hbox hb; have n0_ := Aside0.mk (below_step (sq_below HB.out) hb); have n1_ := Aside0.mk (hbox); have n2_ := ge_ hg (below_size (sq_below HB.out)); have n3_ := ge_ hg (below_size (sq_below HB.out)); clear HB; have HB := n0_; have BK501 := n1_; have GW501 := n2_; have GE501 := n3_; clear n0_ n1_ n2_ n3_; clear hb hbox hg) | ((with_reducible refine gate_dst (N := 3) rfl ?_); refine box_y 3 #[.int .i64 a1_0, .int .i64 a1_1] 25 (h := ?_); intro gb502 hg w40 hbox hb; have n0_ := Aside0.mk (blk_below (sq_blk BK501.out) hb); have n1_ := Aside0.mk (below_step (sq_below1 HB.out GE501.out) hb); have n2_ := Aside0.mk (hbox); have n3_ := ge_ hg (below_size (sq_below1 HB.out GE501.out)); have n4_ := ge_ hg (below_size (sq_below1 HB.out GE501.out)); have n5_ := nb_ hg BK501; have n6_ := Aside0.mk (Ne.symm n5_.out); clear BK501; clear HB; have BK501 := n0_; have HB := n1_; have BK502 := n2_; have GW502 := n3_; have GE502 := n4_; have NB501_502 := n5_; have NB502_501 := n6_; clear n0_ n1_ n2_ n3_ n4_ n5_ n6_; clear hb hbox hg; have hnb41 := NB501_502.out; have hnc41 := NB502_501.out; have hcz42_0 := cl_ (v := .int .i64 a0_0) BK501 0; have hcz42_1 := cl_ (v := .int .i64 a0_1) BK501 1; have hfz42_0 := blk_frozen BK501.out 0; have hfz42_1 := blk_frozen BK501.out 1) | ((with_reducible refine gate_callee (f := 57) rfl ?_); refine gl_ 6 Tryd.func57 #[.agg #[.int .i64 a0_0, .int .i64 a0_1]] (h := ?_); (with_reducible refine (impl_RangeOk.calls a0_0 a0_1 true _ ?side1 A3.out).mono ?_); (case side1 => exact GL0.below HG0.out (sq_below2 HB.out GE501.out GE502.out)); rintro e w43 ⟨rfl, hb⟩; refine ⟨_, rfl, ?_⟩; replace BK501 := bb_ BK501 hb; replace BK502 := bb_ BK502 hb; replace HB := hb2_ HB hb GE501 GE502; (try clear hb); have hcz44_0 := cl_ (v := .int .i64 a1_0) BK502 0; have hcz44_1 := cl_ (v := .int .i64 a1_1) BK502 1; have hfz44_0 := blk_frozen BK502.out 0; have hfz44_1 := blk_frozen BK502.out 1) | (go_at_call 57; (with_reducible refine (impl_RangeOk.calls a1_0 a1_1 true _ ?side1 A5.out).mono ?_); (case side1 => exact GL0.below HG0.out (sq_below2 HB.out GE501.out GE502.out)); rintro e w45 ⟨rfl, hb⟩; replace BK501 := bb_ BK501 hb; replace BK502 := bb_ BK502 hb; replace HB := hb2_ HB hb GE501 GE502; (try clear hb); have hcz46_0 := cl_ (v := .int .i64 a0_0) BK501 0; have hcz46_1 := cl_ (v := .int .i64 a0_1) BK501 1; have hfz46_0 := blk_frozen BK501.out 0; have hfz46_1 := blk_frozen BK501.out 1; have hgl47_0 : w45.cell? ⟨0, 0, none⟩ = some (.int .i64 1) := GL0.c0 (GL0.below HG0.out HB.out); have hgl47_1 : w45.cell? ⟨0, 1, none⟩ = some (.int .i64 0) := GL0.c1 (GL0.below HG0.out HB.out); have hnggl47_502 : gb502 ≠ 0 := (by first | exact Nat.ne_of_gt (Nat.lt_of_lt_of_le (World.block_lt_of_cell? _ _ (GL0.c0 HG0.out)) GE502.out) | exact Nat.ne_of_gt (Nat.lt_of_lt_of_le (World.block_lt_of_cell? _ _ (GL0.c0 HG0.out)) GW502.out)); have hnhgl47_502 := Ne.symm hnggl47_502; have hcz48_0 := cl_ (v := .int .i64 a1_0) BK502 0; have hcz48_1 := cl_ (v := .int .i64 a1_1) BK502 1; have hfz48_0 := blk_frozen BK502.out 0; have hfz48_1 := blk_frozen BK502.out 1))
     go_ret
     exact ⟨by first | rfl | (simp [errW_none, errW_some] <;> rfl) | (simp [*, errW_none, errW_some] <;> rfl), by repeat (first | (with_reducible first | exact HB.out | apply below_alloc | apply pw_below_drewN | apply below_drew1) | exact HB.out)⟩
  ·
   replace c6 := Bool.eq_false_iff.mpr c6; subst c6; have H1 := ifn_ H
   clear H; have H := H1; clear H1; obtain rfl := Option.some.inj H
   go_enter Tryd.func28, Tryd.ntmps28
   go_wp2_with (first | ((with_reducible refine gate_dst (N := 2) rfl ?_); refine box_y 2 #[.int .i64 a0_0, .int .i64 a0_1] 25 (h := ?_); intro gb501 hg w49 hbox hb; have n0_ := Aside0.mk (below_step (sq_below HB.out) hb); have n1_ := Aside0.mk (hbox); have n2_ := ge_ hg (below_size (sq_below HB.out)); have n3_ := ge_ hg (below_size (sq_below HB.out)); clear HB; have HB := n0_; have BK501 := n1_; have GW501 := n2_; have GE501 := n3_; clear n0_ n1_ n2_ n3_; clear hb hbox hg) | ((with_reducible refine gate_dst (N := 3) rfl ?_); refine box_y 3 #[.int .i64 a1_0, .int .i64 a1_1] 25 (h := ?_); intro gb502 hg w50 hbox hb; have n0_ := Aside0.mk (blk_below (sq_blk BK501.out) hb); have n1_ := Aside0.mk (below_step (sq_below1 HB.out GE501.out) hb); have n2_ := Aside0.mk (hbox); have n3_ := ge_ hg (below_size (sq_below1 HB.out GE501.out)); have n4_ := ge_ hg (below_size (sq_below1 HB.out GE501.out)); have n5_ := nb_ hg BK501; have n6_ := Aside0.mk (Ne.symm n5_.out); clear BK501; clear HB; have BK501 := n0_; have HB := n1_; have BK502 := n2_; have GW502 := n3_; have GE502 := n4_; have NB501_502 := n5_; have NB502_501 := n6_; clear n0_ n1_ n2_ n3_ n4_ n5_ n6_; clear hb hbox hg; have hnb51 := NB501_502.out; have hnc51 := NB502_501.out; have hcz52_0 := cl_ (v := .int .i64 a0_0) BK501 0; have hcz52_1 := cl_ (v := .int .i64 a0_1) BK501 1; have hfz52_0 := blk_frozen BK501.out 0; have hfz52_1 := blk_frozen BK501.out 1) | ((with_reducible refine gate_callee (f := 57) rfl ?_); refine gl_ 6 Tryd.func57 #[.agg #[.int .i64 a0_0, .int .i64 a0_1]] (h := ?_); (with_reducible refine (impl_RangeOk.calls a0_0 a0_1 true _ ?side1 A3.out).mono ?_); (case side1 => exact GL0.below HG0.out (sq_below1 HB.out GE502.out)); rintro e w53 ⟨rfl, hb⟩; refine ⟨_, rfl, ?_⟩; replace BK502 := bb_ BK502 hb; replace HB := hb1_ HB hb GE502; (try clear hb); have hcz54_0 := cl_ (v := .int .i64 a1_0) BK502 0; have hcz54_1 := cl_ (v := .int .i64 a1_1) BK502 1; have hfz54_0 := blk_frozen BK502.out 0; have hfz54_1 := blk_frozen BK502.out 1) | (go_at_call 57; (with_reducible refine (impl_RangeOk.calls a1_0 a1_1 false _ ?side1 A5.out).mono ?_); (case side1 => exact GL0.below HG0.out (sq_below HB.out)); rintro e w55 ⟨rfl, hb⟩; replace HB := hb_ HB hb; (try clear hb)))
   go_ret
   exact ⟨by first | rfl | (simp [errW_none, errW_some] <;> rfl) | (simp [*, errW_none, errW_some] <;> rfl), by repeat (first | (with_reducible first | exact HB.out | apply below_alloc | apply pw_below_drewN | apply below_drew1) | exact HB.out)⟩
 ·
  replace c4 := Bool.eq_false_iff.mpr c4; subst c4; have H1 := ifn_ H
  clear H; have H := H1; clear H1; obtain rfl := Option.some.inj H
  go_enter Tryd.func28, Tryd.ntmps28
  go_wp2_with (first | ((with_reducible refine gate_dst (N := 2) rfl ?_); refine box_y 2 #[.int .i64 a0_0, .int .i64 a0_1] 25 (h := ?_); intro gb501 hg w56 hbox hb; have n0_ := Aside0.mk (below_step (sq_below HB.out) hb); have n1_ := Aside0.mk (hbox); have n2_ := ge_ hg (below_size (sq_below HB.out)); have n3_ := ge_ hg (below_size (sq_below HB.out)); clear HB; have HB := n0_; have BK501 := n1_; have GW501 := n2_; have GE501 := n3_; clear n0_ n1_ n2_ n3_; clear hb hbox hg) | ((with_reducible refine gate_dst (N := 3) rfl ?_); refine box_y 3 #[.int .i64 a1_0, .int .i64 a1_1] 25 (h := ?_); intro gb502 hg w57 hbox hb; have n0_ := Aside0.mk (blk_below (sq_blk BK501.out) hb); have n1_ := Aside0.mk (below_step (sq_below1 HB.out GE501.out) hb); have n2_ := Aside0.mk (hbox); have n3_ := ge_ hg (below_size (sq_below1 HB.out GE501.out)); have n4_ := ge_ hg (below_size (sq_below1 HB.out GE501.out)); have n5_ := nb_ hg BK501; have n6_ := Aside0.mk (Ne.symm n5_.out); clear BK501; clear HB; have BK501 := n0_; have HB := n1_; have BK502 := n2_; have GW502 := n3_; have GE502 := n4_; have NB501_502 := n5_; have NB502_501 := n6_; clear n0_ n1_ n2_ n3_ n4_ n5_ n6_; clear hb hbox hg; have hcz58_0 := cl_ (v := .int .i64 a0_0) BK501 0; have hcz58_1 := cl_ (v := .int .i64 a0_1) BK501 1; have hfz58_0 := blk_frozen BK501.out 0; have hfz58_1 := blk_frozen BK501.out 1) | ((with_reducible refine gate_callee (f := 57) rfl ?_); refine gl_ 6 Tryd.func57 #[.agg #[.int .i64 a0_0, .int .i64 a0_1]] (h := ?_); (with_reducible refine (impl_RangeOk.calls a0_0 a0_1 false _ ?side1 A3.out).mono ?_); (case side1 => exact GL0.below HG0.out (sq_below HB.out)); rintro e w59 ⟨rfl, hb⟩; refine ⟨_, rfl, ?_⟩; replace HB := hb_ HB hb; (try clear hb)))
  go_ret
  exact ⟨by first | rfl | (simp [errW_none, errW_some] <;> rfl) | (simp [*, errW_none, errW_some] <;> rfl), by repeat (first | (with_reducible first | exact HB.out | apply below_alloc | apply pw_below_drewN | apply below_drew1) | exact HB.out)⟩

/-! ### strconv_Itoa: function 65 -/
def strconv_Itoa.f (a0 : Int) : Option ByteArray := if -9223372036854775808 ≤ a0 ∧ a0 ≤ 9223372036854775807 then some ⟨(Lib.itoa a0).toArray⟩ else none
theorem strconv_Itoa.calls (a0 : Int) (r : ByteArray) (w : World) (hG5 : GL5 w) (h : strconv_Itoa.f a0 = some r) :
  Calls Tryd.prog 65 #[.int .i64 a0] w fun e w' => e = .returned (.string r) ∧ Below w.heap.size w w' := by
 unfold strconv_Itoa.f at h
 split at h
 ·
  rename_i hr
  injection h with h
  subst h; refine (Tryd.strconv_Itoa a0 hr.1 hr.2 w hG5).mono ?_; rintro e w' ⟨rfl, k, os, rfl⟩; exact ⟨rfl, Lib.below_grow _ w (Nat.le_refl _) k os⟩
 ·
  cases h

/-! ### impl_RangeText: function 32 -/
def impl_RangeText.f (a0_0 : Int) (a0_1 : Int) : Option (ByteArray) := (impl_RangeOk.f a0_0 a0_1).bind fun t526 => (if t526 = true then (if (a0_0 == 1 && (a0_1 == 0)) = true then (some (⟨#[110, 111, 110, 101]⟩ : ByteArray)) else ((strconv_Itoa.f a0_0).bind fun t527 => (if t527.size + 2 ≤ 9223372036854775807 then ((strconv_Itoa.f a0_1).bind fun t528 => (if t527.size + 2 + t528.size ≤ 9223372036854775807 then (some ((t527 ++ (⟨#[46, 46]⟩ : ByteArray)) ++ t528)) else (none))) else (none)))) else (some (⟨#[]⟩ : ByteArray)))
def impl_RangeText.T5 : Bool × List (List Nat × List Nat) := (true, [([], []), ([0], [0]), ([1], [1]), ([2], [2]), ([], []), ([4], [4]), ([5, 2], [5]), ([3, 6], [3, 6]), ([7, 6, 0, 1, 2, 3, 4, 5, 6, 7], [7])])
def impl_RangeText.B5 : List Nat := [0, 1, 3, 7, 0, 16, 55, 127, 255]
theorem impl_RangeText.tab5 : rtab .any (opsOf Tryd.f32 5) = impl_RangeText.T5 := by kernel_rfl
theorem impl_RangeText.bits5 : waitsOk impl_RangeText.T5.2 impl_RangeText.B5 = true := by kernel_rfl
set_option maxHeartbeats 8000000 in
set_option maxRecDepth 100000 in
theorem impl_RangeText.calls (a0_0 : Int) (a0_1 : Int) (r : ByteArray) (w : World) (hG0 : GL0 w) (hG5 : GL5 w) (h : impl_RangeText.f a0_0 a0_1 = some r) :
  Calls Tryd.prog 32 #[.agg #[.int .i64 a0_0, .int .i64 a0_1]] w fun e w' => e = .returned (.string r) ∧ Below w.heap.size w w' := by
 have hu25 := Tryd.underlying25; have HB := Aside0.mk (Below.refl w.heap.size w); have HG0 := Aside0.mk hG0; clear hG0; have HG5 := Aside0.mk hG5; clear hG5; have H : ((impl_RangeOk.f a0_0 a0_1).bind fun t526 => (if t526 = true then (if (a0_0 == 1 && (a0_1 == 0)) = true then (some (⟨#[110, 111, 110, 101]⟩ : ByteArray)) else ((strconv_Itoa.f a0_0).bind fun t527 => (if t527.size + 2 ≤ 9223372036854775807 then ((strconv_Itoa.f a0_1).bind fun t528 => (if t527.size + 2 + t528.size ≤ 9223372036854775807 then (some ((t527 ++ (⟨#[46, 46]⟩ : ByteArray)) ++ t528)) else (none))) else (none)))) else (some (⟨#[]⟩ : ByteArray)))) = some r := h; clear h; replace H := Option.bind_eq_some_iff.mp H; obtain ⟨t526, A20, H⟩ := H; (try dsimp only at H); have A2 := Aside0.mk A20; clear A20
 by_cases c3 : t526 = true
 ·
  subst c3; have H1 := ifp_ H
  clear H; have H := H1; clear H1
  by_cases c4 : (a0_0 == 1 && (a0_1 == 0)) = true
  ·
   rw [if_pos c4] at H; have c4b0 : (a0_0 == 1 && (a0_1 == 0)) = true := c4
   (try (have c4b1 : decide (a0_0 = 1 && (a0_1 == 0)) = true := by simpa using c4))
   (try (have c4b2 : (a0_0 == 1 && (a0_1 == 0)) = true := by simpa using c4))
   clear c4; obtain rfl := Option.some.inj H
   go_enter Tryd.func32, Tryd.ntmps32
   go_wp2_with (first | ((with_reducible refine gate_dst (N := 1) rfl ?_); refine box_y 1 #[.int .i64 a0_0, .int .i64 a0_1] 25 (h := ?_); intro gb525 hg w5 hbox hb; have n0_ := Aside0.mk (below_step (sq_below HB.out) hb); have n1_ := Aside0.mk (hbox); have n2_ := ge_ hg (below_size (sq_below HB.out)); have n3_ := ge_ hg (below_size (sq_below HB.out)); clear HB; have HB := n0_; have BK525 := n1_; have GW525 := n2_; have GE525 := n3_; clear n0_ n1_ n2_ n3_; clear hb hbox hg; have hcz6_0 := cl_ (v := .int .i64 a0_0) BK525 0; have hcz6_1 := cl_ (v := .int .i64 a0_1) BK525 1; have hfz6_0 := blk_frozen BK525.out 0; have hfz6_1 := blk_frozen BK525.out 1) | ((with_reducible refine gate_callee (f := 57) rfl ?_); refine gl_ 5 Tryd.func57 #[.agg #[.int .i64 a0_0, .int .i64 a0_1]] (h := ?_); (with_reducible refine (impl_RangeOk.calls a0_0 a0_1 true _ ?side1 A2.out).mono ?_); (case side1 => exact GL0.below HG0.out (sq_below1 HB.out GE525.out)); rintro e w7 ⟨rfl, hb⟩; refine ⟨_, rfl, ?_⟩; replace BK525 := bb_ BK525 hb; replace HB := hb1_ HB hb GE525; (try clear hb); have hcz8_0 := cl_ (v := .int .i64 a0_0) BK525 0; have hcz8_1 := cl_ (v := .int .i64 a0_1) BK525 1; have hfz8_0 := blk_frozen BK525.out 0; have hfz8_1 := blk_frozen BK525.out 1; have hgl9_0 : w7.cell? ⟨0, 0, none⟩ = some (.int .i64 1) := GL0.c0 (GL0.below HG0.out HB.out); have hgl9_1 : w7.cell? ⟨0, 1, none⟩ = some (.int .i64 0) := GL0.c1 (GL0.below HG0.out HB.out)))
   go_ret
   exact ⟨by first | rfl | (simp [errW_none, errW_some] <;> rfl) | (simp [*, errW_none, errW_some] <;> rfl), by repeat (first | (with_reducible first | exact HB.out | apply below_alloc | apply pw_below_drewN | apply below_drew1) | exact HB.out)⟩
  ·
   rw [if_neg c4] at H; have c4b0 : (a0_0 == 1 && (a0_1 == 0)) = false := by simpa using c4
   (try (have c4b1 : decide (a0_0 = 1 && (a0_1 == 0)) = false := by simpa using c4))
   (try (have c4b2 : (a0_0 == 1 && (a0_1 == 0)) = false := by simpa using c4))
   (try (have c4b3 : ¬ (a0_0 = 1 && (a0_1 == 0)) := by simpa using c4))
   clear c4; replace H := Option.bind_eq_some_iff.mp H; obtain ⟨t527, A100, H⟩ := H; (try dsimp only at H); have A10 := Aside0.mk A100; clear A100
   by_cases c11 : t527.size + 2 ≤ 9223372036854775807
   ·
    rw [if_pos c11] at H; have c11b0 := eq_true c11; have c11b1 : decide (t527.size + 2 ≤ 9223372036854775807) = true := decide_eq_true c11
    try have c11b2 : (9223372036854775807 < t527.size + 2) = False := eq_false (Nat.not_lt.2 c11)
    replace H := Option.bind_eq_some_iff.mp H; obtain ⟨t528, A120, H⟩ := H; (try dsimp only at H); have A12 := Aside0.mk A120; clear A120
    by_cases c13 : t527.size + 2 + t528.size ≤ 9223372036854775807
    ·
     rw [if_pos c13] at H; have c13b0 := eq_true c13; have c13b1 : decide (t527.size + 2 + t528.size ≤ 9223372036854775807) = true := decide_eq_true c13
     try have c13b2 : (9223372036854775807 < t527.size + 2 + t528.size) = False := eq_false (Nat.not_lt.2 c13)
     obtain rfl := Option.some.inj H
     go_enter Tryd.func32, Tryd.ntmps32
     try go_wp2_with (first | ((with_reducible refine gate_dst (N := 1) rfl ?_); refine box_y 1 #[.int .i64 a0_0, .int .i64 a0_1] 25 (h := ?_); intro gb525 hg w14 hbox hb; have n0_ := Aside0.mk (below_step (sq_below HB.out) hb); have n1_ := Aside0.mk (hbox); have n2_ := ge_ hg (below_size (sq_below HB.out)); have n3_ := ge_ hg (below_size (sq_below HB.out)); clear HB; have HB := n0_; have BK525 := n1_; have GW525 := n2_; have GE525 := n3_; clear n0_ n1_ n2_ n3_; clear hb hbox hg; have hcz15_0 := cl_ (v := .int .i64 a0_0) BK525 0; have hcz15_1 := cl_ (v := .int .i64 a0_1) BK525 1; have hfz15_0 := blk_frozen BK525.out 0; have hfz15_1 := blk_frozen BK525.out 1) | ((with_reducible refine gate_callee (f := 57) rfl ?_); refine gl_ 5 Tryd.func57 #[.agg #[.int .i64 a0_0, .int .i64 a0_1]] (h := ?_); (with_reducible refine (impl_RangeOk.calls a0_0 a0_1 true _ ?side1 A2.out).mono ?_); (case side1 => exact GL0.below HG0.out (sq_below1 HB.out GE525.out)); rintro e w16 ⟨rfl, hb⟩; refine ⟨_, rfl, ?_⟩; replace BK525 := bb_ BK525 hb; replace HB := hb1_ HB hb GE525; (try clear hb); have hcz17_0 := cl_ (v := .int .i64 a0_0) BK525 0; have hcz17_1 := cl_ (v := .int .i64 a0_1) BK525 1; have hfz17_0 := blk_frozen BK525.out 0; have hfz17_1 := blk_frozen BK525.out 1; have hgl18_0 : w16.cell? ⟨0, 0, none⟩ = some (.int .i64 1) := GL0.c0 (GL0.below HG0.out HB.out); have hgl18_1 : w16.cell? ⟨0, 1, none⟩ = some (.int .i64 0) := GL0.c1 (GL0.below HG0.out HB.out); have hnggl18_525 : gb525 ≠ 0 := (by first | exact Nat.ne_of_gt (Nat.lt_of_lt_of_le (World.block_lt_of_cell? _ _ (GL0.c0 HG0.out)) GE525.out) | exact Nat.ne_of_gt (Nat.lt_of_lt_of_le (World.block_lt_of_cell? _ _ (GL0.c0 HG0.out)) GW525.out)); have hnhgl18_525 := Ne.symm hnggl18_525))
     replace BK525 := bd_ BK525; replace HB := hd_ HB; refine start_ (n := 9) (S := fun w' => w'.cell? ⟨gb525, 0, none⟩ = some (.int .i64 a0_0) ∧ w'.cell? ⟨gb525, 1, none⟩ = some (.int .i64 a0_1)) (ds := []) #[false, false, false, false, false, false, false, false, false] (by kernel_rfl) rfl rfl ⟨cl_ BK525 0, cl_ BK525 1⟩ (fun hHeld => ?_); refine with_tabW impl_RangeText.tab5 impl_RangeText.bits5 (fun HT_ HW_ => ?_); generalize w16.drew = w19 at BK525 HB hHeld ⊢; refine pure_y 0 (some 11) #[true, false, false, false, false, false, false, false, false] (any_of HT_.out (by kernel_rfl)) (h := ?_)
     refine pure_y 4 (some 15) #[true, false, false, false, true, false, false, false, false] (any_of HT_.out (by kernel_rfl)) (h := ?_)
     refine take_y 1 (some 12) #[true, true, false, false, true, false, false, false, false] rfl (take_ofW HT_.out HW_.out (by kernel_rfl)) hHeld (Or.inl ⟨by rfl, (by rintro w' ⟨s0, s1⟩; go_simp; with_reducible rfl)⟩) (h := ?_)
     refine take_y 5 (some 16) #[true, true, false, false, true, true, false, false, false] rfl (take_ofW HT_.out HW_.out (by kernel_rfl)) hHeld (Or.inl ⟨by rfl, (by rintro w' ⟨s0, s1⟩; go_simp; with_reducible rfl)⟩) (h := ?_)
     refine one_ (i := 2) (N := some 13) #[true, true, true, false, true, true, false, false, false] rfl rfl (one_of HT_.out (by kernel_rfl)) (by decide) (fun K hK => ?_); refine gs_ Tryd.func65 #[.int .i64 a0_0] (h := ?_); with_reducible refine (strconv_Itoa.calls a0_0 t527 _ ?side1 A10.out).mono ?_
     (case side1 => exact GL5.below HG5.out (sq_below1 HB.out GE525.out))
     rintro e w20 ⟨rfl, hb⟩; refine ⟨_, rfl, ?_⟩; replace BK525 := bb_ BK525 hb; replace HB := hb1_ HB hb GE525
     (try clear hb)
     (try clear hb2)
     (try clear hk)
     (try clear hi)
     refine hK.out _ _ ⟨cl_ BK525 0, cl_ BK525 1⟩ (fun hHeld => ?_); clear hK K; refine norm_y (h := ?_)
     refine pure_y 3 (some 14) #[true, true, true, true, true, true, false, false, false] (any_of HT_.out (by kernel_rfl)) (h := ?_)
     refine one_ (i := 6) (N := some 17) #[true, true, true, true, true, true, true, false, false] rfl rfl (one_of HT_.out (by kernel_rfl)) (by decide) (fun K hK => ?_); refine gs_ Tryd.func65 #[.int .i64 a0_1] (h := ?_); with_reducible refine (strconv_Itoa.calls a0_1 t528 _ ?side1 A12.out).mono ?_
     (case side1 => exact GL5.below HG5.out (sq_below1 HB.out GE525.out))
     rintro e w21 ⟨rfl, hb⟩; refine ⟨_, rfl, ?_⟩; replace BK525 := bb_ BK525 hb; replace HB := hb1_ HB hb GE525
     (try clear hb)
     (try clear hb2)
     (try clear hk)
     (try clear hi)
     refine hK.out _ _ ⟨cl_ BK525 0, cl_ BK525 1⟩ (fun hHeld => ?_); clear hK K; refine norm_y (h := ?_)
     refine pure_y 7 (some 18) #[true, true, true, true, true, true, true, true, false] (any_of HT_.out (by kernel_rfl)) (h := ?_)
     refine pure_y 8 (some 2) #[true, true, true, true, true, true, true, true, true] (any_of HT_.out (by kernel_rfl)) (h := ?_)
     refine done_ (done_of HT_.out (by kernel_rfl)) ?_
     try go_wp2
     go_ret
     exact ⟨by first | rfl | (simp [errW_none, errW_some] <;> rfl) | (simp [*, errW_none, errW_some] <;> rfl), by repeat (first | (with_reducible first | exact HB.out | apply below_alloc | apply pw_below_drewN | apply below_drew1 | refine below_set ?_ GE525.out) | exact HB.out)⟩
    ·
     rw [if_neg c13] at H; exact absurd H (by simp)
   ·
    rw [if_neg c11] at H; exact absurd H (by simp)
 ·
  replace c3 := Bool.eq_false_iff.mpr c3; subst c3; have H1 := ifn_ H
  clear H; have H := H1; clear H1; obtain rfl := Option.some.inj H
  go_enter Tryd.func32, Tryd.ntmps32
  go_wp2_with (first | ((with_reducible refine gate_dst (N := 1) rfl ?_); refine box_y 1 #[.int .i64 a0_0, .int .i64 a0_1] 25 (h := ?_); intro gb525 hg w22 hbox hb; have n0_ := Aside0.mk (below_step (sq_below HB.out) hb); have n1_ := Aside0.mk (hbox); have n2_ := ge_ hg (below_size (sq_below HB.out)); have n3_ := ge_ hg (below_size (sq_below HB.out)); clear HB; have HB := n0_; have BK525 := n1_; have GW525 := n2_; have GE525 := n3_; clear n0_ n1_ n2_ n3_; clear hb hbox hg; have hcz23_0 := cl_ (v := .int .i64 a0_0) BK525 0; have hcz23_1 := cl_ (v := .int .i64 a0_1) BK525 1; have hfz23_0 := blk_frozen BK525.out 0; have hfz23_1 := blk_frozen BK525.out 1) | ((with_reducible refine gate_callee (f := 57) rfl ?_); refine gl_ 5 Tryd.func57 #[.agg #[.int .i64 a0_0, .int .i64 a0_1]] (h := ?_); (with_reducible refine (impl_RangeOk.calls a0_0 a0_1 false _ ?side1 A2.out).mono ?_); (case side1 => exact GL0.below HG0.out (sq_below HB.out)); rintro e w24 ⟨rfl, hb⟩; refine ⟨_, rfl, ?_⟩; replace HB := hb_ HB hb; (try clear hb)))
  go_ret
  exact ⟨by first | rfl | (simp [errW_none, errW_some] <;> rfl) | (simp [*, errW_none, errW_some] <;> rfl), by repeat (first | (with_reducible first | exact HB.out | apply below_alloc | apply pw_below_drewN | apply below_drew1) | exact HB.out)⟩

/-! ### strings_Cut: function 63 -/
def strings_Cut.f (a0 : ByteArray) (a1 : ByteArray) : Option (ByteArray × ByteArray × Bool) := if a0.size < 4294967281 then some (⟨(Lib.cut a0.data.toList a1.data.toList).1.toArray⟩, ⟨(Lib.cut a0.data.toList a1.data.toList).2.1.toArray⟩, (Lib.cut a0.data.toList a1.data.toList).2.2) else none
theorem strings_Cut.calls (a0 : ByteArray) (a1 : ByteArray) (r1 : ByteArray) (r2 : ByteArray) (r3 : Bool) (w : World) (hG2 : GL2 w) (h : strings_Cut.f a0 a1 = some (r1, r2, r3)) :
  Calls Tryd.prog 63 #[.string a0, .string a1] w fun e w' => e = .returned (.tuple #[.string r1, .string r2, .bool r3]) ∧ Below w.heap.size w w' := by
 unfold strings_Cut.f at h
 split at h
 ·
  rename_i hs
  injection h with h
  obtain ⟨m, hm⟩ := hG2; simp only [Prod.mk.injEq] at h; obtain ⟨rfl, rfl, rfl⟩ := h; refine (Tryd.strings_Cut a0 a1 m w hs hm).mono ?_; rintro e w' ⟨rfl, n, rfl⟩; exact ⟨rfl, pw_below_drewN (Below.refl _ _) n⟩
 ·
  cases h

/-! ### impl_readNum: function 64 -/
/-- The number that a text is in decimal, and whether it is just the text of that number. -/
def numOf (l : List UInt8) : Int × Bool :=
 match Lib.atoiAll l with
 | .ok v => (v, Lib.itoa v == l)
 | .«syntax» => (0, false)
 | .range => (Lib.atoiSat l, false)
def impl_readNum.f (a0 : ByteArray) : Option (Int × Bool) := if a0.size ≤ 281474976710656 then some (numOf a0.data.toList) else none
set_option maxRecDepth 100000 in
theorem impl_readNum.ok (s : ByteArray) (v : Int) (hs : s.size ≤ 281474976710656) (h : Lib.atoiAll s.data.toList = .ok v) (w : World) (hG : GL5 w) :
  Calls Tryd.prog 64 #[.string s] w fun e w' => e = .returned (.tuple #[.int .i64 v, .bool (Lib.itoa v == s.data.toList)]) ∧ Below w.heap.size w w' := by
 obtain ⟨vb0, vb1⟩ := Lib.atoiAll_bounds h
 have hb1 : ∀ w1, (w1 = w ∨ ∃ t, w1 = Lib.bytesWorld w 5 t) → Below w.heap.size w w1 := by
  rintro w1 (rfl | ⟨t, rfl⟩)
  ·
   exact Below.refl _ _
  ·
   exact Lib.bytesWorld_below _ _ _
 go_enter Tryd.func64, Tryd.ntmps64
 go_wp2_with (first | (go_at_call 82; refine (Tryd.strconv_Atoi_ok s (by omega) v h _).mono ?_; rintro e w1 ⟨rfl, hw⟩; replace hw := hb1 w1 hw) | (go_at_call 65; refine (Tryd.strconv_Itoa v (by omega) (by omega) _ (GL5.below hG hw)).mono ?_))
 rintro e w2 ⟨rfl, k, os, rfl⟩
 go_wp2
 go_ret2
 refine ⟨?_, hw.trans (Lib.below_grow _ w1 hw.size k os)⟩; rw [← Lib.toList_data]; rfl
set_option maxRecDepth 100000 in
theorem impl_readNum.noNum (s : ByteArray) (hs : s.size ≤ 281474976710656) (h : Lib.atoiAll s.data.toList = .«syntax») (w : World) (hG : GL3 w) :
  Calls Tryd.prog 64 #[.string s] w fun e w' => e = .returned (.tuple #[.int .i64 0, .bool false]) ∧ Below w.heap.size w w' := by
 obtain ⟨u, v, hv⟩ := hG
 go_enter Tryd.func64, Tryd.ntmps64
 go_wp2_with (go_at_call 82; refine (Tryd.strconv_Atoi_syntax s hs h _ _ hv (Or.inr ⟨u, v, rfl⟩)).mono ?_; rintro e w1 ⟨N, rfl, -, -, hb⟩)
 go_ret2
 exact ⟨rfl, hb⟩
set_option maxRecDepth 100000 in
theorem impl_readNum.far (s : ByteArray) (hs : s.size ≤ 281474976710656) (h : Lib.atoiAll s.data.toList = .range) (w : World) (hG : GL4 w) :
  Calls Tryd.prog 64 #[.string s] w fun e w' => e = .returned (.tuple #[.int .i64 (Lib.atoiSat s.data.toList), .bool false]) ∧ Below w.heap.size w w' := by
 obtain ⟨u, v, hv⟩ := hG
 go_enter Tryd.func64, Tryd.ntmps64
 go_wp2_with (go_at_call 82; refine (Tryd.strconv_Atoi_range s hs h _ _ hv (Or.inr ⟨u, v, rfl⟩)).mono ?_; rintro e w1 ⟨N, rfl, -, -, hb⟩)
 go_ret2
 exact ⟨rfl, hb⟩
theorem impl_readNum.calls (a0 : ByteArray) (r1 : Int) (r2 : Bool) (w : World) (hG3 : GL3 w) (hG4 : GL4 w) (hG5 : GL5 w) (h : impl_readNum.f a0 = some (r1, r2)) :
  Calls Tryd.prog 64 #[.string a0] w fun e w' => e = .returned (.tuple #[.int .i64 r1, .bool r2]) ∧ Below w.heap.size w w' := by
 unfold impl_readNum.f at h
 split at h
 ·
  rename_i hs
  injection h with h
  unfold numOf at h; cases e : Lib.atoiAll a0.data.toList with
  | ok v =>
   rw [e] at h; simp only [Prod.mk.injEq] at h; obtain ⟨rfl, rfl⟩ := h; exact impl_readNum.ok a0 v hs e w hG5
  | «syntax» =>
   rw [e] at h; simp only [Prod.mk.injEq] at h; obtain ⟨rfl, rfl⟩ := h; exact impl_readNum.noNum a0 hs e w hG3
  | range =>
   rw [e] at h; simp only [Prod.mk.injEq] at h; obtain ⟨rfl, rfl⟩ := h; exact impl_readNum.far a0 hs e w hG4
 ·
  cases h

end Go.Proofs.YtmibaaicadgchaaDoor.Q
