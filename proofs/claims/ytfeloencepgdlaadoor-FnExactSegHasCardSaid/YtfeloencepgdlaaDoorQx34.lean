/- Functions of the translation as Lean functions, each with a proof that a call answers so; out of the seat, by this claim's own program prt.py. -/
import Derived.Test.YtfeloencepgdlaaDoorWRepsOne
import Derived.Test.YtfeloencepgdlaaDoorQx0
import Derived.Test.YtfeloencepgdlaaDoorQx9
import Derived.Test.YtfeloencepgdlaaDoorQx10
import Derived.Test.YtfeloencepgdlaaDoorQx11
import Derived.Test.YtfeloencepgdlaaDoorQStep
namespace Go.Proofs.YtfeloencepgdlaaDoor.Q
open Go.RowKit Go.Proofs.YtfeloencepgdlaaDoorW.PrintWords Go.Proofs.YtfeloencepgdlaaDoorW.PrintLast Go.Proofs.YtfeloencepgdlaaDoorW.PrintMore
attribute [local go_sem] max2_int min2_int max_two min_two max_three min_three max_four min_four   -- for this text's walks alone
set_option linter.unusedVariables false
set_option linter.unusedSimpArgs false

/-! ### impl_RangeHas: function 73 -/
def impl_RangeHas.f (a0_0 : Int) (a0_1 : Int) (a1 : Int) : Option (Bool) := (impl_RangeOk.f a0_0 a0_1).bind fun t389 => (if t389 = true then (if a0_0 ≤ a1 then (some (decide (a1 ≤ a0_1))) else (some false)) else (some false))
set_option maxHeartbeats 8000000 in
set_option maxRecDepth 100000 in
theorem impl_RangeHas.calls (a0_0 : Int) (a0_1 : Int) (a1 : Int) (r : Bool) (w : World) (hG0 : GL0 w) (h : impl_RangeHas.f a0_0 a0_1 a1 = some r) :
  Calls Tryd.prog 73 #[.agg #[.int .i64 a0_0, .int .i64 a0_1], .int .i64 a1] w fun e w' => e = .returned (.bool r) ∧ Below w.heap.size w w' := by
 have hu60 := Tryd.underlying60; have HB := Aside0.mk (Below.refl w.heap.size w); have HG0 := Aside0.mk hG0; clear hG0; have H : ((impl_RangeOk.f a0_0 a0_1).bind fun t389 => (if t389 = true then (if a0_0 ≤ a1 then (some (decide (a1 ≤ a0_1))) else (some false)) else (some false))) = some r := h; clear h; replace H := Option.bind_eq_some_iff.mp H; obtain ⟨t389, A30, H⟩ := H; (try dsimp only at H); have A3 := Aside0.mk A30; clear A30
 by_cases c4 : t389 = true
 ·
  subst c4; have H1 := ifp_ H
  clear H; have H := H1; clear H1
  by_cases c5 : a0_0 ≤ a1
  ·
   rw [if_pos c5] at H; have c5b0 : decide (a0_0 ≤ a1) = true := decide_eq_true c5; clear c5; obtain rfl := Option.some.inj H
   go_enter Tryd.func73, Tryd.ntmps73
   go_wp2_with (first | ((with_reducible refine gate_dst (N := 2) rfl ?_); refine box_y 2 #[.int .i64 a0_0, .int .i64 a0_1] 60 (h := ?_); intro gb388 hg w6 hbox hb; have n0_ := Aside0.mk (below_step (sq_below HB.out) hb); have n1_ := Aside0.mk (hbox); have n2_ := ge_ hg (below_size (sq_below HB.out)); have n3_ := ge_ hg (below_size (sq_below HB.out)); clear HB; have HB := n0_; have BK388 := n1_; have GW388 := n2_; have GE388 := n3_; clear n0_ n1_ n2_ n3_; clear hb hbox hg; have hcz7_0 := cl_ (v := .int .i64 a0_0) BK388 0; have hcz7_1 := cl_ (v := .int .i64 a0_1) BK388 1; have hfz7_0 := blk_frozen BK388.out 0; have hfz7_1 := blk_frozen BK388.out 1) | ((with_reducible refine gate_callee (f := 64) rfl ?_); refine gl_ 6 Tryd.func64 #[.agg #[.int .i64 a0_0, .int .i64 a0_1]] (h := ?_); (with_reducible refine (impl_RangeOk.calls a0_0 a0_1 true _ ?side1 A3.out).mono ?_); (case side1 => exact GL0.below HG0.out (sq_below1 HB.out GE388.out)); rintro e w8 ⟨rfl, hb⟩; refine ⟨_, rfl, ?_⟩; replace BK388 := bb_ BK388 hb; replace HB := hb1_ HB hb GE388; (try clear hb); have hcz9_0 := cl_ (v := .int .i64 a0_0) BK388 0; have hcz9_1 := cl_ (v := .int .i64 a0_1) BK388 1; have hfz9_0 := blk_frozen BK388.out 0; have hfz9_1 := blk_frozen BK388.out 1))
   go_ret
   exact ⟨by first | rfl | (simp [errW_none, errW_some] <;> rfl) | (simp [*, errW_none, errW_some] <;> rfl), sq_below1 HB.out GE388.out⟩
  ·
   rw [if_neg c5] at H; have c5b0 : decide (a0_0 ≤ a1) = false := decide_eq_false c5; clear c5; obtain rfl := Option.some.inj H
   go_enter Tryd.func73, Tryd.ntmps73
   go_wp2_with (first | ((with_reducible refine gate_dst (N := 2) rfl ?_); refine box_y 2 #[.int .i64 a0_0, .int .i64 a0_1] 60 (h := ?_); intro gb388 hg w10 hbox hb; have n0_ := Aside0.mk (below_step (sq_below HB.out) hb); have n1_ := Aside0.mk (hbox); have n2_ := ge_ hg (below_size (sq_below HB.out)); have n3_ := ge_ hg (below_size (sq_below HB.out)); clear HB; have HB := n0_; have BK388 := n1_; have GW388 := n2_; have GE388 := n3_; clear n0_ n1_ n2_ n3_; clear hb hbox hg; have hcz11_0 := cl_ (v := .int .i64 a0_0) BK388 0; have hcz11_1 := cl_ (v := .int .i64 a0_1) BK388 1; have hfz11_0 := blk_frozen BK388.out 0; have hfz11_1 := blk_frozen BK388.out 1) | ((with_reducible refine gate_callee (f := 64) rfl ?_); refine gl_ 6 Tryd.func64 #[.agg #[.int .i64 a0_0, .int .i64 a0_1]] (h := ?_); (with_reducible refine (impl_RangeOk.calls a0_0 a0_1 true _ ?side1 A3.out).mono ?_); (case side1 => exact GL0.below HG0.out (sq_below1 HB.out GE388.out)); rintro e w12 ⟨rfl, hb⟩; refine ⟨_, rfl, ?_⟩; replace BK388 := bb_ BK388 hb; replace HB := hb1_ HB hb GE388; (try clear hb); have hcz13_0 := cl_ (v := .int .i64 a0_0) BK388 0; have hcz13_1 := cl_ (v := .int .i64 a0_1) BK388 1; have hfz13_0 := blk_frozen BK388.out 0; have hfz13_1 := blk_frozen BK388.out 1))
   go_ret
   exact ⟨by first | rfl | (simp [errW_none, errW_some] <;> rfl) | (simp [*, errW_none, errW_some] <;> rfl), sq_below1 HB.out GE388.out⟩
 ·
  replace c4 := Bool.eq_false_iff.mpr c4; subst c4; have H1 := ifn_ H
  clear H; have H := H1; clear H1; obtain rfl := Option.some.inj H
  go_enter Tryd.func73, Tryd.ntmps73
  go_wp2_with (first | ((with_reducible refine gate_dst (N := 2) rfl ?_); refine box_y 2 #[.int .i64 a0_0, .int .i64 a0_1] 60 (h := ?_); intro gb388 hg w14 hbox hb; have n0_ := Aside0.mk (below_step (sq_below HB.out) hb); have n1_ := Aside0.mk (hbox); have n2_ := ge_ hg (below_size (sq_below HB.out)); have n3_ := ge_ hg (below_size (sq_below HB.out)); clear HB; have HB := n0_; have BK388 := n1_; have GW388 := n2_; have GE388 := n3_; clear n0_ n1_ n2_ n3_; clear hb hbox hg; have hcz15_0 := cl_ (v := .int .i64 a0_0) BK388 0; have hcz15_1 := cl_ (v := .int .i64 a0_1) BK388 1; have hfz15_0 := blk_frozen BK388.out 0; have hfz15_1 := blk_frozen BK388.out 1) | ((with_reducible refine gate_callee (f := 64) rfl ?_); refine gl_ 6 Tryd.func64 #[.agg #[.int .i64 a0_0, .int .i64 a0_1]] (h := ?_); (with_reducible refine (impl_RangeOk.calls a0_0 a0_1 false _ ?side1 A3.out).mono ?_); (case side1 => exact GL0.below HG0.out (sq_below HB.out)); rintro e w16 ⟨rfl, hb⟩; refine ⟨_, rfl, ?_⟩; replace HB := hb_ HB hb; (try clear hb)))
  go_ret
  exact ⟨by first | rfl | (simp [errW_none, errW_some] <;> rfl) | (simp [*, errW_none, errW_some] <;> rfl), sq_below HB.out⟩

/-! ### impl_ValHas: function 50 -/
def impl_ValHas.f (a0_0 : Int) (a0_1 : Int) (a0_2 : Bool) (a1_0 : Bool) (a1_1 : Int) : Option (Bool) := if a1_0 = true then ((impl_RangeHas.f a0_0 a0_1 a1_1).bind fun t392 => (some t392)) else ((impl_ValOk.f a0_0 a0_1 a0_2).bind fun t393 => (if t393 = true then (if a0_2 = true then (some false) else (some (a1_1 == 0))) else (some false)))
set_option maxHeartbeats 8000000 in
set_option maxRecDepth 100000 in
theorem impl_ValHas.calls (a0_0 : Int) (a0_1 : Int) (a0_2 : Bool) (a1_0 : Bool) (a1_1 : Int) (r : Bool) (w : World) (hG0 : GL0 w) (h : impl_ValHas.f a0_0 a0_1 a0_2 a1_0 a1_1 = some r) :
  Calls Tryd.prog 50 #[.agg #[.int .i64 a0_0, .int .i64 a0_1, .bool a0_2], .agg #[.bool a1_0, .int .i64 a1_1]] w fun e w' => e = .returned (.bool r) ∧ Below w.heap.size w w' := by
 have hu62 := Tryd.underlying62; have hu77 := Tryd.underlying77; have hu60 := Tryd.underlying60; have HB := Aside0.mk (Below.refl w.heap.size w); have HG0 := Aside0.mk hG0; clear hG0; have H : (if a1_0 = true then ((impl_RangeHas.f a0_0 a0_1 a1_1).bind fun t392 => (some t392)) else ((impl_ValOk.f a0_0 a0_1 a0_2).bind fun t393 => (if t393 = true then (if a0_2 = true then (some false) else (some (a1_1 == 0))) else (some false)))) = some r := h; clear h
 by_cases c3 : a1_0 = true
 ·
  subst c3; have H1 := ifp_ H
  clear H; have H := H1; clear H1; replace H := Option.bind_eq_some_iff.mp H; obtain ⟨t392, A40, H⟩ := H; replace H : (some t392) = some r := H; have A4 := Aside0.mk A40; clear A40; obtain rfl := Option.some.inj H
  go_enter Tryd.func50, Tryd.ntmps50
  go_wp2_with (first | ((with_reducible refine gate_dst (N := 2) rfl ?_); refine box_y 2 #[.int .i64 a0_0, .int .i64 a0_1, .bool a0_2] 62 (h := ?_); intro gb390 hg w5 hbox hb; have n0_ := Aside0.mk (below_step (sq_below HB.out) hb); have n1_ := Aside0.mk (hbox); have n2_ := ge_ hg (below_size (sq_below HB.out)); have n3_ := ge_ hg (below_size (sq_below HB.out)); clear HB; have HB := n0_; have BK390 := n1_; have GW390 := n2_; have GE390 := n3_; clear n0_ n1_ n2_ n3_; clear hb hbox hg) | ((with_reducible refine gate_dst (N := 3) rfl ?_); refine box_y 3 #[.bool true, .int .i64 a1_1] 77 (h := ?_); intro gb391 hg w6 hbox hb; have n0_ := Aside0.mk (blk_below (sq_blk BK390.out) hb); have n1_ := Aside0.mk (below_step (sq_below1 HB.out GE390.out) hb); have n2_ := Aside0.mk (hbox); have n3_ := ge_ hg (below_size (sq_below1 HB.out GE390.out)); have n4_ := ge_ hg (below_size (sq_below1 HB.out GE390.out)); have n5_ := nb_ hg BK390; have n6_ := Aside0.mk (Ne.symm n5_.out); clear BK390; clear HB; have BK390 := n0_; have HB := n1_; have BK391 := n2_; have GW391 := n3_; have GE391 := n4_; have NB390_391 := n5_; have NB391_390 := n6_; clear n0_ n1_ n2_ n3_ n4_ n5_ n6_; clear hb hbox hg; have hnb7 := NB391_390.out; have hnc7 := NB390_391.out; have hcz8_0 := cl_ (v := .bool true) BK391 0; have hcz8_1 := cl_ (v := .int .i64 a1_1) BK391 1; have hfz8_0 := blk_frozen BK391.out 0; have hfz8_1 := blk_frozen BK391.out 1; have hcz9_0 := cl_ (v := .int .i64 a0_0) BK390 0; have hcz9_1 := cl_ (v := .int .i64 a0_1) BK390 1; have hcz9_2 := cl_ (v := .bool a0_2) BK390 2; have hfz9_0 := blk_frozen BK390.out 0; have hfz9_1 := blk_frozen BK390.out 1; have hfz9_2 := blk_frozen BK390.out 2) | ((with_reducible refine gate_callee (f := 73) rfl ?_); refine gl_ 11 Tryd.func73 #[.agg #[.int .i64 a0_0, .int .i64 a0_1], .int .i64 a1_1] (h := ?_); (with_reducible refine (impl_RangeHas.calls a0_0 a0_1 a1_1 t392 _ ?side1 A4.out).mono ?_); (case side1 => exact GL0.below HG0.out (sq_below HB.out)); rintro e w10 ⟨rfl, hb⟩; refine ⟨_, rfl, ?_⟩; replace HB := hb_ HB hb; (try clear hb)))
  go_ret
  exact ⟨by first | rfl | (simp [errW_none, errW_some] <;> rfl) | (simp [*, errW_none, errW_some] <;> rfl), sq_below HB.out⟩
 ·
  replace c3 := Bool.eq_false_iff.mpr c3; subst c3; have H1 := ifn_ H
  clear H; have H := H1; clear H1; replace H := Option.bind_eq_some_iff.mp H; obtain ⟨t393, A110, H⟩ := H; (try dsimp only at H); have A11 := Aside0.mk A110; clear A110
  by_cases c12 : t393 = true
  ·
   subst c12; have H1 := ifp_ H
   clear H; have H := H1; clear H1
   by_cases c13 : a0_2 = true
   ·
    subst c13; have H1 := ifp_ H
    clear H; have H := H1; clear H1; obtain rfl := Option.some.inj H
    go_enter Tryd.func50, Tryd.ntmps50
    go_wp2_with (first | ((with_reducible refine gate_dst (N := 2) rfl ?_); refine box_y 2 #[.int .i64 a0_0, .int .i64 a0_1, .bool true] 62 (h := ?_); intro gb390 hg w14 hbox hb; have n0_ := Aside0.mk (below_step (sq_below HB.out) hb); have n1_ := Aside0.mk (hbox); have n2_ := ge_ hg (below_size (sq_below HB.out)); have n3_ := ge_ hg (below_size (sq_below HB.out)); clear HB; have HB := n0_; have BK390 := n1_; have GW390 := n2_; have GE390 := n3_; clear n0_ n1_ n2_ n3_; clear hb hbox hg) | ((with_reducible refine gate_dst (N := 3) rfl ?_); refine box_y 3 #[.bool false, .int .i64 a1_1] 77 (h := ?_); intro gb391 hg w15 hbox hb; have n0_ := Aside0.mk (blk_below (sq_blk BK390.out) hb); have n1_ := Aside0.mk (below_step (sq_below1 HB.out GE390.out) hb); have n2_ := Aside0.mk (hbox); have n3_ := ge_ hg (below_size (sq_below1 HB.out GE390.out)); have n4_ := ge_ hg (below_size (sq_below1 HB.out GE390.out)); have n5_ := nb_ hg BK390; have n6_ := Aside0.mk (Ne.symm n5_.out); clear BK390; clear HB; have BK390 := n0_; have HB := n1_; have BK391 := n2_; have GW391 := n3_; have GE391 := n4_; have NB390_391 := n5_; have NB391_390 := n6_; clear n0_ n1_ n2_ n3_ n4_ n5_ n6_; clear hb hbox hg; have hnb16 := NB391_390.out; have hnc16 := NB390_391.out; have hcz17_0 := cl_ (v := .bool false) BK391 0; have hcz17_1 := cl_ (v := .int .i64 a1_1) BK391 1; have hfz17_0 := blk_frozen BK391.out 0; have hfz17_1 := blk_frozen BK391.out 1; have hcz18_0 := cl_ (v := .int .i64 a0_0) BK390 0; have hcz18_1 := cl_ (v := .int .i64 a0_1) BK390 1; have hcz18_2 := cl_ (v := .bool true) BK390 2; have hfz18_0 := blk_frozen BK390.out 0; have hfz18_1 := blk_frozen BK390.out 1; have hfz18_2 := blk_frozen BK390.out 2) | ((with_reducible refine gate_callee (f := 39) rfl ?_); refine gl_ 13 Tryd.func39 #[.agg #[.int .i64 a0_0, .int .i64 a0_1, .bool true]] (h := ?_); (with_reducible refine (impl_ValOk.calls a0_0 a0_1 true true _ ?side1 A11.out).mono ?_); (case side1 => exact GL0.below HG0.out (sq_below1 HB.out GE390.out)); rintro e w19 ⟨rfl, hb⟩; refine ⟨_, rfl, ?_⟩; replace BK390 := bb_ BK390 hb; replace HB := hb1_ HB hb GE390; (try clear hb); have hcz20_0 := cl_ (v := .int .i64 a0_0) BK390 0; have hcz20_1 := cl_ (v := .int .i64 a0_1) BK390 1; have hcz20_2 := cl_ (v := .bool true) BK390 2; have hfz20_0 := blk_frozen BK390.out 0; have hfz20_1 := blk_frozen BK390.out 1; have hfz20_2 := blk_frozen BK390.out 2))
    go_ret
    exact ⟨by first | rfl | (simp [errW_none, errW_some] <;> rfl) | (simp [*, errW_none, errW_some] <;> rfl), sq_below1 HB.out GE390.out⟩
   ·
    replace c13 := Bool.eq_false_iff.mpr c13; subst c13; have H1 := ifn_ H
    clear H; have H := H1; clear H1; obtain rfl := Option.some.inj H
    go_enter Tryd.func50, Tryd.ntmps50
    go_wp2_with (first | ((with_reducible refine gate_dst (N := 2) rfl ?_); refine box_y 2 #[.int .i64 a0_0, .int .i64 a0_1, .bool false] 62 (h := ?_); intro gb390 hg w21 hbox hb; have n0_ := Aside0.mk (below_step (sq_below HB.out) hb); have n1_ := Aside0.mk (hbox); have n2_ := ge_ hg (below_size (sq_below HB.out)); have n3_ := ge_ hg (below_size (sq_below HB.out)); clear HB; have HB := n0_; have BK390 := n1_; have GW390 := n2_; have GE390 := n3_; clear n0_ n1_ n2_ n3_; clear hb hbox hg) | ((with_reducible refine gate_dst (N := 3) rfl ?_); refine box_y 3 #[.bool false, .int .i64 a1_1] 77 (h := ?_); intro gb391 hg w22 hbox hb; have n0_ := Aside0.mk (blk_below (sq_blk BK390.out) hb); have n1_ := Aside0.mk (below_step (sq_below1 HB.out GE390.out) hb); have n2_ := Aside0.mk (hbox); have n3_ := ge_ hg (below_size (sq_below1 HB.out GE390.out)); have n4_ := ge_ hg (below_size (sq_below1 HB.out GE390.out)); have n5_ := nb_ hg BK390; have n6_ := Aside0.mk (Ne.symm n5_.out); clear BK390; clear HB; have BK390 := n0_; have HB := n1_; have BK391 := n2_; have GW391 := n3_; have GE391 := n4_; have NB390_391 := n5_; have NB391_390 := n6_; clear n0_ n1_ n2_ n3_ n4_ n5_ n6_; clear hb hbox hg; have hnb23 := NB391_390.out; have hnc23 := NB390_391.out; have hcz24_0 := cl_ (v := .bool false) BK391 0; have hcz24_1 := cl_ (v := .int .i64 a1_1) BK391 1; have hfz24_0 := blk_frozen BK391.out 0; have hfz24_1 := blk_frozen BK391.out 1; have hcz25_0 := cl_ (v := .int .i64 a0_0) BK390 0; have hcz25_1 := cl_ (v := .int .i64 a0_1) BK390 1; have hcz25_2 := cl_ (v := .bool false) BK390 2; have hfz25_0 := blk_frozen BK390.out 0; have hfz25_1 := blk_frozen BK390.out 1; have hfz25_2 := blk_frozen BK390.out 2) | ((with_reducible refine gate_callee (f := 39) rfl ?_); refine gl_ 13 Tryd.func39 #[.agg #[.int .i64 a0_0, .int .i64 a0_1, .bool false]] (h := ?_); (with_reducible refine (impl_ValOk.calls a0_0 a0_1 false true _ ?side1 A11.out).mono ?_); (case side1 => exact GL0.below HG0.out (sq_below2 HB.out GE390.out GE391.out)); rintro e w26 ⟨rfl, hb⟩; refine ⟨_, rfl, ?_⟩; replace BK390 := bb_ BK390 hb; replace BK391 := bb_ BK391 hb; replace HB := hb2_ HB hb GE390 GE391; (try clear hb); have hcz27_0 := cl_ (v := .int .i64 a0_0) BK390 0; have hcz27_1 := cl_ (v := .int .i64 a0_1) BK390 1; have hcz27_2 := cl_ (v := .bool false) BK390 2; have hfz27_0 := blk_frozen BK390.out 0; have hfz27_1 := blk_frozen BK390.out 1; have hfz27_2 := blk_frozen BK390.out 2; have hcz28_0 := cl_ (v := .bool false) BK391 0; have hcz28_1 := cl_ (v := .int .i64 a1_1) BK391 1; have hfz28_0 := blk_frozen BK391.out 0; have hfz28_1 := blk_frozen BK391.out 1))
    go_ret
    exact ⟨by first | rfl | (simp [errW_none, errW_some] <;> rfl) | (simp [*, errW_none, errW_some] <;> rfl), sq_below1 HB.out GE391.out⟩
  ·
   replace c12 := Bool.eq_false_iff.mpr c12; subst c12; have H1 := ifn_ H
   clear H; have H := H1; clear H1; obtain rfl := Option.some.inj H
   go_enter Tryd.func50, Tryd.ntmps50
   go_wp2_with (first | ((with_reducible refine gate_dst (N := 2) rfl ?_); refine box_y 2 #[.int .i64 a0_0, .int .i64 a0_1, .bool a0_2] 62 (h := ?_); intro gb390 hg w29 hbox hb; have n0_ := Aside0.mk (below_step (sq_below HB.out) hb); have n1_ := Aside0.mk (hbox); have n2_ := ge_ hg (below_size (sq_below HB.out)); have n3_ := ge_ hg (below_size (sq_below HB.out)); clear HB; have HB := n0_; have BK390 := n1_; have GW390 := n2_; have GE390 := n3_; clear n0_ n1_ n2_ n3_; clear hb hbox hg) | ((with_reducible refine gate_dst (N := 3) rfl ?_); refine box_y 3 #[.bool false, .int .i64 a1_1] 77 (h := ?_); intro gb391 hg w30 hbox hb; have n0_ := Aside0.mk (blk_below (sq_blk BK390.out) hb); have n1_ := Aside0.mk (below_step (sq_below1 HB.out GE390.out) hb); have n2_ := Aside0.mk (hbox); have n3_ := ge_ hg (below_size (sq_below1 HB.out GE390.out)); have n4_ := ge_ hg (below_size (sq_below1 HB.out GE390.out)); have n5_ := nb_ hg BK390; have n6_ := Aside0.mk (Ne.symm n5_.out); clear BK390; clear HB; have BK390 := n0_; have HB := n1_; have BK391 := n2_; have GW391 := n3_; have GE391 := n4_; have NB390_391 := n5_; have NB391_390 := n6_; clear n0_ n1_ n2_ n3_ n4_ n5_ n6_; clear hb hbox hg; have hnb31 := NB391_390.out; have hnc31 := NB390_391.out; have hcz32_0 := cl_ (v := .bool false) BK391 0; have hcz32_1 := cl_ (v := .int .i64 a1_1) BK391 1; have hfz32_0 := blk_frozen BK391.out 0; have hfz32_1 := blk_frozen BK391.out 1; have hcz33_0 := cl_ (v := .int .i64 a0_0) BK390 0; have hcz33_1 := cl_ (v := .int .i64 a0_1) BK390 1; have hcz33_2 := cl_ (v := .bool a0_2) BK390 2; have hfz33_0 := blk_frozen BK390.out 0; have hfz33_1 := blk_frozen BK390.out 1; have hfz33_2 := blk_frozen BK390.out 2) | ((with_reducible refine gate_callee (f := 39) rfl ?_); refine gl_ 13 Tryd.func39 #[.agg #[.int .i64 a0_0, .int .i64 a0_1, .bool a0_2]] (h := ?_); (with_reducible refine (impl_ValOk.calls a0_0 a0_1 a0_2 false _ ?side1 A11.out).mono ?_); (case side1 => exact GL0.below HG0.out (sq_below HB.out)); rintro e w34 ⟨rfl, hb⟩; refine ⟨_, rfl, ?_⟩; replace HB := hb_ HB hb; (try clear hb)))
   go_ret
   exact ⟨by first | rfl | (simp [errW_none, errW_some] <;> rfl) | (simp [*, errW_none, errW_some] <;> rfl), sq_below HB.out⟩

/-! ### impl_Cell: function 48 -/
theorem impl_Cell.index_none (A : Option Addr) (c : Nat) (f : Value) (w : World) :
  Calls Tryd.prog 72 #[.slice A 0 c, f] w fun e w' => e = .returned (.int .i64 (-1)) ∧ Below w.heap.size w w' := by
 go_enter Tryd.func72, Tryd.ntmps72
 go_wp2
 go_loopg [5, 8] 0 (fun gg _ s8 wr => s8 = .int .i64 0 ∧ Aside0 (Below w.heap.size w wr))
 case atStart => exact ⟨rfl, ⟨Below.refl _ w⟩⟩
 case round =>
  obtain ⟨rfl, BW⟩ := hrel
  go_wp2
  go_ret
  exact ⟨rfl, BW.out⟩
theorem impl_Cell.contains {n : Nat} {b : Bool} (r : Int) (s f : Value) (hr : decide (0 ≤ r) = b) (w : World) (hi : Calls Tryd.prog 72 #[s, f] w fun e w' => e = .returned (.int .i64 r) ∧ Below w.heap.size w w') :
  Calls Tryd.prog 48 #[s, f] w fun e w' => e = .returned (.bool b) ∧ Below w.heap.size w w' := by
 have HR := Aside0.mk hr; clear hr
 go_enter Tryd.func48, Tryd.ntmps48
 go_wp2_with (go_at_call 72; refine hi.mono ?_; rintro e w' ⟨rfl, hb'⟩)
 go_ret
 exact ⟨by rw [← HR.out]; rfl, hb'⟩
theorem impl_Cell.search {α : Type} (d : Kd α) (hd : d.sz = 2) (q : α → Bool) (g : Nat) (lb : Array Value) (eg : ∀ args w, (callFunc g args).run Tryd.prog w = .ok (.enter g args) w) (A : Option Addr) (c : Nat) (xs : List α) (w : World) (hr : d.C w A xs.length xs)
  (hbig : xs.length ≤ 9223372036854775807) (hp : ∀ x ∈ xs, ∀ cs, d.K w x cs → ∀ W, Below w.heap.size w W → Calls Tryd.prog g (#[.agg cs.toArray] ++ lb) W fun e w' => e = .returned (.bool (q x)) ∧ Below w.heap.size w w') :
  Calls Tryd.prog 48 #[.slice A xs.length c, .func (.func g) #[] lb] w fun e w' => e = .returned (.bool (xs.any q)) ∧ Below w.heap.size w w' := by
 rcases Nat.eq_zero_or_pos xs.length with h0 | h0
 ·
  obtain rfl := List.eq_nil_of_length_eq_zero h0; exact impl_Cell.contains (n := 0) (-1) _ _ (by rfl) w (impl_Cell.index_none A c _ w)
 ·
  haveI : Inhabited α := ⟨xs[0]⟩
  obtain ⟨⟨b, off, pp⟩, rfl, hcells⟩ := hr.2.2 h0
  have hlen : ∀ j, j < xs.length → ∃ cs : List Value, d.K w xs[j]! cs ∧ cs.length = 2 ∧ ∀ i v, cs[i]? = some v → w.cell? ((⟨b, off, pp⟩ : Addr).add (j * 2 + i)) = some v := fun j hj => by
   obtain ⟨cs, h1, hK, hce⟩ := hcells j xs[j] (List.getElem?_eq_getElem hj); refine ⟨cs, ?_, ?_, ?_⟩
   ·
    rw [getElem!_pos xs j hj]; exact hK
   ·
    rw [← hd]; exact d.K_len hK
   ·
    intro i v hv; have := hce i v hv
    rwa [hd] at this
  obtain ⟨cs0, hK0, hl0, hc0⟩ := hlen 0 h0; obtain ⟨v0, hv0⟩ : ∃ v, cs0[0]? = some v := ⟨cs0[0], List.getElem?_eq_getElem (by omega)⟩; have e0 := hc0 0 v0 hv0
  have hpn : pp = none := by
   cases pp with
   | none => rfl
   | some z =>
    simp only [Addr.add, World.cell?] at e0
    split at e0 <;> simp at e0
  subst hpn; have hb : b < w.heap.size := World.block_lt_of_cell? w _ e0; have hm : ∀ j, min j (xs.length - 1) < xs.length := fun j => by omega
  have hcs := fun j => Classical.choose_spec (hlen (min j (xs.length - 1)) (hm j))
  have hS := Tryd.slices_ContainsFunc_f48 (α := Nat) 2 Tryd.isAgg77 Tryd.sizeOf77 (fun j => Classical.choose (hlen (min j (xs.length - 1)) (hm j))) (fun j => (hcs j).2.1) (fun j => q xs[min j (xs.length - 1)]!) g lb eg b off xs.length c (List.range xs.length) w
   (fun W j hW => hp _ (by rw [getElem!_pos xs _ (hm j)]; exact List.getElem_mem (hm j)) _ (hcs j).1 W hW) (by simp) hbig hb (fun j hj i v hv => by
    have hj' : j < xs.length := by simpa using hj
    have e1 : (List.range xs.length)[j]! = j := by rw [getElem!_pos _ j hj]; simp
    rw [e1] at hv; have h := (hcs j).2.2 i v hv
    rwa [Addr.add_lit, show min j (xs.length - 1) = j by omega, ← Nat.add_assoc] at h)
  refine hS.mono ?_; rintro e w' ⟨rfl, hb'⟩; refine ⟨?_, hb'⟩
  congr 2
  rw [List.take_of_length_le (by simp)]
  have e2 : xs = (List.range xs.length).map fun j => xs[min j (xs.length - 1)]! := by
   apply List.ext_getElem (by simp)
   intro j h1 h2; rw [List.getElem_map, List.getElem_range, getElem!_pos xs _ (hm j)]
   congr 1; omega
  conv => rhs; rw [e2, List.any_map]
  rfl
theorem impl_Cell.isv (x : Int) : ∃ r, impl_isVal.f x = some r := by
 unfold impl_isVal.f impl_inRange.f
 (repeat' split) <;> exact ⟨_, rfl⟩
theorem impl_Cell.rok (a b : Int) : ∃ r, impl_RangeOk.f a b = some r := by
 obtain ⟨r1, h1⟩ := impl_Cell.isv a; obtain ⟨r2, h2⟩ := impl_Cell.isv b; unfold impl_RangeOk.f; rw [h1, h2]; cases (a == 1 && b == 0) <;> cases r1 <;> cases r2 <;> exact ⟨_, rfl⟩
theorem impl_Cell.total (a b : Int) (s v : Bool) (n : Int) : impl_ValHas.f a b s v n = some ((impl_ValHas.f a b s v n).getD false) := by
 have h : ∃ q, impl_ValHas.f a b s v n = some q := by
  obtain ⟨r, h⟩ := impl_Cell.rok a b; unfold impl_ValHas.f impl_RangeHas.f impl_ValOk.f; rw [h]; cases r <;> cases v <;> cases s <;> by_cases hh : a ≤ n <;> simp [hh]
 obtain ⟨q, h⟩ := h; rw [h]; rfl
/-- Is what is said not so of a cell? -/
def impl_Cell.q (a b : Int) (s v : Bool) (n : Int) : Bool := !((impl_ValHas.f a b s v n).getD false)
set_option maxRecDepth 100000 in
set_option maxHeartbeats 4000000 in
theorem impl_Cell.lit (a b : Int) (s : Bool) (B : Nat) (v : Bool) (n : Int) (W0 w : World) (hG0 : GL0 W0) (hb : Below W0.heap.size W0 w) (hB : B < W0.heap.size) (h0 : W0.cell? ⟨B, 0, none⟩ = some (.int .i64 a)) (h1 : W0.cell? ⟨B, 1, none⟩ = some (.int .i64 b)) (h2 : W0.cell? ⟨B, 2, none⟩ = some (.bool s)) :
  Calls Tryd.prog 49 (#[.agg #[.bool v, .int .i64 n]] ++ #[.pointer (some ⟨B, 0, none⟩)]) w fun e w' => e = .returned (.bool (impl_Cell.q a b s v n)) ∧ Below W0.heap.size W0 w' := by
 have hc0 : w.cell? ⟨B, 0, none⟩ = some (.int .i64 a) := (hb.cell (p := ⟨B, 0, none⟩) hB).trans h0; have hc1 : w.cell? ⟨B, 1, none⟩ = some (.int .i64 b) := (hb.cell (p := ⟨B, 1, none⟩) hB).trans h1; have hc2 : w.cell? ⟨B, 2, none⟩ = some (.bool s) := (hb.cell (p := ⟨B, 2, none⟩) hB).trans h2; have hBw : B < w.heap.size := Nat.lt_of_lt_of_le hB hb.size; have hne : B ≠ w.heap.size := by omega
 clear hB h0 h1 h2; have hz := hb.size; have hv : ∀ W, Below W0.heap.size W0 W → Calls Tryd.prog 50 #[.agg #[.int .i64 a, .int .i64 b, .bool s], .agg #[.bool v, .int .i64 n]] W fun e w' => e = .returned (.bool ((impl_ValHas.f a b s v n).getD false)) ∧ Below W.heap.size W w' := fun W hW => impl_ValHas.calls a b s v n _ W (GL0.below hG0 hW) (impl_Cell.total a b s v n); have hA : ∀ cs, Below W0.heap.size W0 (w.alloc cs) := fun cs => hb.alloc hz cs; show Calls Tryd.prog 49 #[.agg #[.bool v, .int .i64 n], .pointer (some ⟨B, 0, none⟩)] w _; unfold impl_Cell.q; clear hG0
 go_enter Tryd.func49, Tryd.ntmps49
 go_wp2_with (go_at_call 50; refine (hv _ (by first | exact hA _ | exact pw_below_drewN (hA _) _ | exact hb)).mono ?_; rintro e w1 ⟨rfl, hb1⟩)
 go_ret
 exact ⟨rfl, by first | exact (hA _).trans (hb1.mono (hA _).size) | exact hb.trans (hb1.mono hb.size)⟩
def impl_Cell.f (l0 : List (S77)) (a b : Int) (s : Bool) : Option Bool := if l0.length ≤ 9223372036854775807 then some (l0.any fun c => impl_Cell.q a b s c.f0 c.f1) else none
theorem impl_Cell.calls (A0 : Option Addr) (c0 : Nat) (l0 : List (S77)) (g : Nat) (a b : Int) (s : Bool) (r : Bool) (w : World) (hG0 : GL0 w) (hr0 : Kd.C k77 w A0 l0.length l0) (hc0 : l0.length ≤ c0) (hbx : w.heap[g]? = some (.cells #[.int .i64 a, .int .i64 b, .bool s] 62 (0, 0))) (h : impl_Cell.f l0 a b s = some r) :
  Calls Tryd.prog 48 #[.slice A0 l0.length c0, .func (.func 49) #[] #[.pointer (some ⟨g, 0, none⟩)]] w fun e w' => e = .returned (.bool r) ∧ Below w.heap.size w w' := by
 unfold impl_Cell.f at h
 split at h
 ·
  rename_i hlen
  obtain rfl := Option.some.inj h; have hB : g < w.heap.size := (Array.getElem?_eq_some_iff.1 hbx).1; refine impl_Cell.search k77 rfl (fun c => impl_Cell.q a b s c.f0 c.f1) 49 #[.pointer (some ⟨g, 0, none⟩)] (enters_of Tryd.func49 (by kernel_rfl) rfl) A0 c0 l0 w hr0 hlen (fun x hx cs hK W hW => ?_); obtain rfl := k77_open hK; exact impl_Cell.lit a b s g x.f0 x.f1 w W hG0 hW hB ((blk_cell hbx 0).trans rfl) ((blk_cell hbx 1).trans rfl) ((blk_cell hbx 2).trans rfl)
 ·
  cases h


end Go.Proofs.YtfeloencepgdlaaDoor.Q
