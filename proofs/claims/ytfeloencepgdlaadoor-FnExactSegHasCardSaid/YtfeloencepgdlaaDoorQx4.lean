/- Functions of the translation as Lean functions, each with a proof that a call answers so; out of the seat, by this claim's own program prt.py. -/
import Derived.Test.YtfeloencepgdlaaDoorWRepsOne
import Derived.Test.YtfeloencepgdlaaDoorQx0
import Derived.Test.YtfeloencepgdlaaDoorQx1
import Derived.Test.YtfeloencepgdlaaDoorQx3
import Derived.Test.YtfeloencepgdlaaDoorQStep
namespace Go.Proofs.YtfeloencepgdlaaDoor.Q
open Go.RowKit Go.Proofs.YtfeloencepgdlaaDoorW.PrintWords Go.Proofs.YtfeloencepgdlaaDoorW.PrintLast Go.Proofs.YtfeloencepgdlaaDoorW.PrintMore
attribute [local go_sem] max2_int min2_int max_two min_two max_three min_three max_four min_four   -- for this text's walks alone
set_option linter.unusedVariables false
set_option linter.unusedSimpArgs false

attribute [local go_sem high] eqA55
/-! ### spec_SymOk: function 24 -/
def spec_SymOk.f (a0 : Int) (a1_0 : Int) (a1_1 : Int) : Option (Bool) := (spec_l01Between.f a0 1 13).bind fun t110 => (if t110 = true then ((spec_l01Between.f a1_0 0 (wrap64 (a0 - 1))).bind fun t111 => (if t111 = true then ((spec_l01Between.f a1_1 (-1000) 1000).bind fun t112 => (some t112)) else (some false))) else (some false))
set_option maxHeartbeats 8000000 in
set_option maxRecDepth 100000 in
theorem spec_SymOk.calls (a0 : Int) (a1_0 : Int) (a1_1 : Int) (r : Bool) (w : World) (h : spec_SymOk.f a0 a1_0 a1_1 = some r) :
  Calls Tryd.prog 24 #[.int .i64 a0, .agg #[.int .i64 a1_0, .int .i64 a1_1]] w fun e w' => e = .returned (.bool r) ∧ Below w.heap.size w w' := by
 have hu55 := Tryd.underlying55; have HB := Aside0.mk (Below.refl w.heap.size w); have H : ((spec_l01Between.f a0 1 13).bind fun t110 => (if t110 = true then ((spec_l01Between.f a1_0 0 (wrap64 (a0 - 1))).bind fun t111 => (if t111 = true then ((spec_l01Between.f a1_1 (-1000) 1000).bind fun t112 => (some t112)) else (some false))) else (some false))) = some r := h; clear h; replace H := Option.bind_eq_some_iff.mp H; obtain ⟨t110, A30, H⟩ := H; (try dsimp only at H); have A3 := Aside0.mk A30; clear A30
 by_cases c4 : t110 = true
 ·
  subst c4; have H1 := ifp_ H
  clear H; have H := H1; clear H1; replace H := Option.bind_eq_some_iff.mp H; obtain ⟨t111, A50, H⟩ := H; (try dsimp only at H); have A5 := Aside0.mk A50; clear A50
  by_cases c6 : t111 = true
  ·
   subst c6; have H1 := ifp_ H
   clear H; have H := H1; clear H1; replace H := Option.bind_eq_some_iff.mp H; obtain ⟨t112, A70, H⟩ := H; replace H : (some t112) = some r := H; have A7 := Aside0.mk A70; clear A70; obtain rfl := Option.some.inj H
   go_enter Tryd.func24, Tryd.ntmps24
   go_wp2_with (first | ((with_reducible refine gate_dst (N := 3) rfl ?_); refine box_y 3 #[.int .i64 a1_0, .int .i64 a1_1] 55 (h := ?_); intro gb109 hg w8 hbox hb; have n0_ := Aside0.mk (below_step (sq_below HB.out) hb); have n1_ := Aside0.mk (hbox); have n2_ := ge_ hg (below_size (sq_below HB.out)); have n3_ := ge_ hg (below_size (sq_below HB.out)); clear HB; have HB := n0_; have BK109 := n1_; have GW109 := n2_; have GE109 := n3_; clear n0_ n1_ n2_ n3_; clear hb hbox hg) | ((with_reducible refine gate_callee (f := 56) rfl ?_); refine gl_ 6 Tryd.func56 #[.int .i64 a0, .int .i64 1, .int .i64 13] (h := ?_); (with_reducible refine (spec_l01Between.calls a0 1 13 true _ A3.out).mono ?_); rintro e w' ⟨rfl, ⟨nd, rfl⟩⟩; refine ⟨_, rfl, ?_⟩; have hcz9_0 := cl_ (v := .int .i64 a1_0) BK109 0; have hcz9_1 := cl_ (v := .int .i64 a1_1) BK109 1; have hfz9_0 := blk_frozen BK109.out 0; have hfz9_1 := blk_frozen BK109.out 1) | (go_at_call 56; (with_reducible refine (spec_l01Between.calls a1_0 0 (wrap64 (a0 - 1)) true _ A5.out).mono ?_); rintro e w' ⟨rfl, ⟨nd, rfl⟩⟩) | (go_at_call 56; (with_reducible refine (spec_l01Between.calls a1_1 (-1000) 1000 t112 _ A7.out).mono ?_); rintro e w' ⟨rfl, ⟨nd, rfl⟩⟩))
   go_ret
   exact ⟨by first | rfl | (simp [errW_none, errW_some] <;> rfl) | (simp [*, errW_none, errW_some] <;> rfl), sq_below HB.out⟩
  ·
   replace c6 := Bool.eq_false_iff.mpr c6; subst c6; have H1 := ifn_ H
   clear H; have H := H1; clear H1; obtain rfl := Option.some.inj H
   go_enter Tryd.func24, Tryd.ntmps24
   go_wp2_with (first | ((with_reducible refine gate_dst (N := 3) rfl ?_); refine box_y 3 #[.int .i64 a1_0, .int .i64 a1_1] 55 (h := ?_); intro gb109 hg w10 hbox hb; have n0_ := Aside0.mk (below_step (sq_below HB.out) hb); have n1_ := Aside0.mk (hbox); have n2_ := ge_ hg (below_size (sq_below HB.out)); have n3_ := ge_ hg (below_size (sq_below HB.out)); clear HB; have HB := n0_; have BK109 := n1_; have GW109 := n2_; have GE109 := n3_; clear n0_ n1_ n2_ n3_; clear hb hbox hg) | ((with_reducible refine gate_callee (f := 56) rfl ?_); refine gl_ 6 Tryd.func56 #[.int .i64 a0, .int .i64 1, .int .i64 13] (h := ?_); (with_reducible refine (spec_l01Between.calls a0 1 13 true _ A3.out).mono ?_); rintro e w' ⟨rfl, ⟨nd, rfl⟩⟩; refine ⟨_, rfl, ?_⟩; have hcz11_0 := cl_ (v := .int .i64 a1_0) BK109 0; have hcz11_1 := cl_ (v := .int .i64 a1_1) BK109 1; have hfz11_0 := blk_frozen BK109.out 0; have hfz11_1 := blk_frozen BK109.out 1) | (go_at_call 56; (with_reducible refine (spec_l01Between.calls a1_0 0 (wrap64 (a0 - 1)) false _ A5.out).mono ?_); rintro e w' ⟨rfl, ⟨nd, rfl⟩⟩))
   go_ret
   exact ⟨by first | rfl | (simp [errW_none, errW_some] <;> rfl) | (simp [*, errW_none, errW_some] <;> rfl), sq_below HB.out⟩
 ·
  replace c4 := Bool.eq_false_iff.mpr c4; subst c4; have H1 := ifn_ H
  clear H; have H := H1; clear H1; obtain rfl := Option.some.inj H
  go_enter Tryd.func24, Tryd.ntmps24
  go_wp2_with (first | ((with_reducible refine gate_dst (N := 3) rfl ?_); refine box_y 3 #[.int .i64 a1_0, .int .i64 a1_1] 55 (h := ?_); intro gb109 hg w12 hbox hb; have n0_ := Aside0.mk (below_step (sq_below HB.out) hb); have n1_ := Aside0.mk (hbox); have n2_ := ge_ hg (below_size (sq_below HB.out)); have n3_ := ge_ hg (below_size (sq_below HB.out)); clear HB; have HB := n0_; have BK109 := n1_; have GW109 := n2_; have GE109 := n3_; clear n0_ n1_ n2_ n3_; clear hb hbox hg) | ((with_reducible refine gate_callee (f := 56) rfl ?_); refine gl_ 6 Tryd.func56 #[.int .i64 a0, .int .i64 1, .int .i64 13] (h := ?_); (with_reducible refine (spec_l01Between.calls a0 1 13 false _ A3.out).mono ?_); rintro e w' ⟨rfl, ⟨nd, rfl⟩⟩; refine ⟨_, rfl, ?_⟩))
  go_ret
  exact ⟨by first | rfl | (simp [errW_none, errW_some] <;> rfl) | (simp [*, errW_none, errW_some] <;> rfl), sq_below HB.out⟩

/-! ### spec_SymLess: function 25 -/
def spec_SymLess.f (a0_0 : Int) (a0_1 : Int) (a1_0 : Int) (a1_1 : Int) : Option (Bool) := if a0_0 < a1_0 then (some true) else (if a0_0 = a1_0 then (some (decide (a0_1 < a1_1))) else (some false))
set_option maxHeartbeats 8000000 in
set_option maxRecDepth 100000 in
theorem spec_SymLess.calls (a0_0 : Int) (a0_1 : Int) (a1_0 : Int) (a1_1 : Int) (r : Bool) (w : World) (h : spec_SymLess.f a0_0 a0_1 a1_0 a1_1 = some r) :
  Calls Tryd.prog 25 #[.agg #[.int .i64 a0_0, .int .i64 a0_1], .agg #[.int .i64 a1_0, .int .i64 a1_1]] w fun e w' => e = .returned (.bool r) ∧ Below w.heap.size w w' := by
 have hu55 := Tryd.underlying55; have HB := Aside0.mk (Below.refl w.heap.size w); have H : (if a0_0 < a1_0 then (some true) else (if a0_0 = a1_0 then (some (decide (a0_1 < a1_1))) else (some false))) = some r := h; clear h
 by_cases c3 : a0_0 < a1_0
 ·
  rw [if_pos c3] at H; have c3b0 : decide (a0_0 < a1_0) = true := decide_eq_true c3; clear c3; obtain rfl := Option.some.inj H
  go_enter Tryd.func25, Tryd.ntmps25
  go_wp2_with (first | ((with_reducible refine gate_dst (N := 2) rfl ?_); refine box_y 2 #[.int .i64 a0_0, .int .i64 a0_1] 55 (h := ?_); intro gb113 hg w4 hbox hb; have n0_ := Aside0.mk (below_step (sq_below HB.out) hb); have n1_ := Aside0.mk (hbox); have n2_ := ge_ hg (below_size (sq_below HB.out)); have n3_ := ge_ hg (below_size (sq_below HB.out)); clear HB; have HB := n0_; have BK113 := n1_; have GW113 := n2_; have GE113 := n3_; clear n0_ n1_ n2_ n3_; clear hb hbox hg) | ((with_reducible refine gate_dst (N := 3) rfl ?_); refine box_y 3 #[.int .i64 a1_0, .int .i64 a1_1] 55 (h := ?_); intro gb114 hg w5 hbox hb; have n0_ := Aside0.mk (blk_below (sq_blk BK113.out) hb); have n1_ := Aside0.mk (below_step (sq_below1 HB.out GE113.out) hb); have n2_ := Aside0.mk (hbox); have n3_ := ge_ hg (below_size (sq_below1 HB.out GE113.out)); have n4_ := ge_ hg (below_size (sq_below1 HB.out GE113.out)); have n5_ := nb_ hg BK113; have n6_ := Aside0.mk (Ne.symm n5_.out); clear BK113; clear HB; have BK113 := n0_; have HB := n1_; have BK114 := n2_; have GW114 := n3_; have GE114 := n4_; have NB113_114 := n5_; have NB114_113 := n6_; clear n0_ n1_ n2_ n3_ n4_ n5_ n6_; clear hb hbox hg; have hnb6 := NB113_114.out; have hnc6 := NB114_113.out; have hcz7_0 := cl_ (v := .int .i64 a0_0) BK113 0; have hcz7_1 := cl_ (v := .int .i64 a0_1) BK113 1; have hfz7_0 := blk_frozen BK113.out 0; have hfz7_1 := blk_frozen BK113.out 1; have hcz8_0 := cl_ (v := .int .i64 a1_0) BK114 0; have hcz8_1 := cl_ (v := .int .i64 a1_1) BK114 1; have hfz8_0 := blk_frozen BK114.out 0; have hfz8_1 := blk_frozen BK114.out 1))
  go_ret
  exact ⟨by first | rfl | (simp [errW_none, errW_some] <;> rfl) | (simp [*, errW_none, errW_some] <;> rfl), sq_below1 HB.out GE114.out⟩
 ·
  rw [if_neg c3] at H; have c3b0 : decide (a0_0 < a1_0) = false := decide_eq_false c3; clear c3
  by_cases c9 : a0_0 = a1_0
  ·
   rw [if_pos c9] at H; have c9b0 : (a0_0 == a1_0) = true := beq_iff_eq.mpr c9; have c9b1 : (a0_0 != a1_0) = false := bne_eq_false_iff_eq.mpr c9; clear c9; obtain rfl := Option.some.inj H
   go_enter Tryd.func25, Tryd.ntmps25
   go_wp2_with (first | ((with_reducible refine gate_dst (N := 2) rfl ?_); refine box_y 2 #[.int .i64 a0_0, .int .i64 a0_1] 55 (h := ?_); intro gb113 hg w10 hbox hb; have n0_ := Aside0.mk (below_step (sq_below HB.out) hb); have n1_ := Aside0.mk (hbox); have n2_ := ge_ hg (below_size (sq_below HB.out)); have n3_ := ge_ hg (below_size (sq_below HB.out)); clear HB; have HB := n0_; have BK113 := n1_; have GW113 := n2_; have GE113 := n3_; clear n0_ n1_ n2_ n3_; clear hb hbox hg) | ((with_reducible refine gate_dst (N := 3) rfl ?_); refine box_y 3 #[.int .i64 a1_0, .int .i64 a1_1] 55 (h := ?_); intro gb114 hg w11 hbox hb; have n0_ := Aside0.mk (blk_below (sq_blk BK113.out) hb); have n1_ := Aside0.mk (below_step (sq_below1 HB.out GE113.out) hb); have n2_ := Aside0.mk (hbox); have n3_ := ge_ hg (below_size (sq_below1 HB.out GE113.out)); have n4_ := ge_ hg (below_size (sq_below1 HB.out GE113.out)); have n5_ := nb_ hg BK113; have n6_ := Aside0.mk (Ne.symm n5_.out); clear BK113; clear HB; have BK113 := n0_; have HB := n1_; have BK114 := n2_; have GW114 := n3_; have GE114 := n4_; have NB113_114 := n5_; have NB114_113 := n6_; clear n0_ n1_ n2_ n3_ n4_ n5_ n6_; clear hb hbox hg; have hnb12 := NB113_114.out; have hnc12 := NB114_113.out; have hcz13_0 := cl_ (v := .int .i64 a0_0) BK113 0; have hcz13_1 := cl_ (v := .int .i64 a0_1) BK113 1; have hfz13_0 := blk_frozen BK113.out 0; have hfz13_1 := blk_frozen BK113.out 1; have hcz14_0 := cl_ (v := .int .i64 a1_0) BK114 0; have hcz14_1 := cl_ (v := .int .i64 a1_1) BK114 1; have hfz14_0 := blk_frozen BK114.out 0; have hfz14_1 := blk_frozen BK114.out 1))
   go_ret
   exact ⟨by first | rfl | (simp [errW_none, errW_some] <;> rfl) | (simp [*, errW_none, errW_some] <;> rfl), sq_below1 HB.out GE114.out⟩
  ·
   rw [if_neg c9] at H; have c9b0 : (a0_0 == a1_0) = false := beq_eq_false_iff_ne.mpr c9; have c9b1 : (a0_0 != a1_0) = true := bne_iff_ne.mpr c9; obtain rfl := Option.some.inj H
   go_enter Tryd.func25, Tryd.ntmps25
   go_wp2_with (first | ((with_reducible refine gate_dst (N := 2) rfl ?_); refine box_y 2 #[.int .i64 a0_0, .int .i64 a0_1] 55 (h := ?_); intro gb113 hg w15 hbox hb; have n0_ := Aside0.mk (below_step (sq_below HB.out) hb); have n1_ := Aside0.mk (hbox); have n2_ := ge_ hg (below_size (sq_below HB.out)); have n3_ := ge_ hg (below_size (sq_below HB.out)); clear HB; have HB := n0_; have BK113 := n1_; have GW113 := n2_; have GE113 := n3_; clear n0_ n1_ n2_ n3_; clear hb hbox hg) | ((with_reducible refine gate_dst (N := 3) rfl ?_); refine box_y 3 #[.int .i64 a1_0, .int .i64 a1_1] 55 (h := ?_); intro gb114 hg w16 hbox hb; have n0_ := Aside0.mk (blk_below (sq_blk BK113.out) hb); have n1_ := Aside0.mk (below_step (sq_below1 HB.out GE113.out) hb); have n2_ := Aside0.mk (hbox); have n3_ := ge_ hg (below_size (sq_below1 HB.out GE113.out)); have n4_ := ge_ hg (below_size (sq_below1 HB.out GE113.out)); have n5_ := nb_ hg BK113; have n6_ := Aside0.mk (Ne.symm n5_.out); clear BK113; clear HB; have BK113 := n0_; have HB := n1_; have BK114 := n2_; have GW114 := n3_; have GE114 := n4_; have NB113_114 := n5_; have NB114_113 := n6_; clear n0_ n1_ n2_ n3_ n4_ n5_ n6_; clear hb hbox hg; have hnb17 := NB113_114.out; have hnc17 := NB114_113.out; have hcz18_0 := cl_ (v := .int .i64 a0_0) BK113 0; have hcz18_1 := cl_ (v := .int .i64 a0_1) BK113 1; have hfz18_0 := blk_frozen BK113.out 0; have hfz18_1 := blk_frozen BK113.out 1; have hcz19_0 := cl_ (v := .int .i64 a1_0) BK114 0; have hcz19_1 := cl_ (v := .int .i64 a1_1) BK114 1; have hfz19_0 := blk_frozen BK114.out 0; have hfz19_1 := blk_frozen BK114.out 1))
   go_ret
   exact ⟨by first | rfl | (simp [errW_none, errW_some] <;> rfl) | (simp [*, errW_none, errW_some] <;> rfl), sq_below1 HB.out GE114.out⟩

/-! ### spec_l10Find: function 57 -/
def spec_l10Find.l0 : Nat → List (S55) → Int → Int → Int → Option (Int)
 | 0, _, _, _, _ => none
 | k + 1, x0, x5, x116000, x116001 => if x5 < (x0.length : Int) then (if 0 ≤ x5 then (if (((rd_T55 x0 x5).f0) == x116000 && (((rd_T55 x0 x5).f1) == x116001)) = true then (some x5) else (spec_l10Find.l0 k x0 (wrap64 (x5 + 1)) x116000 x116001)) else (none)) else (some (-1))
def spec_l10Find.f (k : Nat) (l0 : List (S55)) (a1_0 : Int) (a1_1 : Int) : Option (Int) := spec_l10Find.l0 k l0 0 a1_0 a1_1
theorem spec_l10Find.mono_l : ∀ k, (∀ y0 y1 y2 y3, LeO (spec_l10Find.l0 k y0 y1 y2 y3) (spec_l10Find.l0 (k + 1) y0 y1 y2 y3))
 | 0 => fun _ _ _ _ r h => by simp [spec_l10Find.l0] at h
 | k + 1 => by
  have ih0 := spec_l10Find.mono_l k
  ·
   intro y0 y1 y2 y3; unfold spec_l10Find.l0
   repeat' first
   | (with_reducible exact ih0 _ _ _ _)
   | (with_reducible exact LeO.refl _)
   | (with_reducible exact LeO.none _)
   | (with_reducible refine LeO.ite ?_ ?_)
   | (with_reducible refine LeO.bind ?_ (fun _ => ?_))
   | exact ih0 _ _ _ _
   | exact LeO.none _
   | refine LeO.ite ?_ ?_
   | refine LeO.bind ?_ (fun _ => ?_)
theorem spec_l10Find.mono : ∀ a0 a1 a2 k, LeO (spec_l10Find.f k a0 a1 a2) (spec_l10Find.f (k + 1) a0 a1 a2) := by
 intro a0 a1 a2 k; have ih0 := spec_l10Find.mono_l k; unfold spec_l10Find.f
 repeat' first
   | (with_reducible exact ih0 _ _ _ _)
   | (with_reducible exact LeO.refl _)
   | (with_reducible exact LeO.none _)
   | (with_reducible refine LeO.ite ?_ ?_)
   | (with_reducible refine LeO.bind ?_ (fun _ => ?_))
   | exact ih0 _ _ _ _
   | exact LeO.none _
   | refine LeO.ite ?_ ?_
   | refine LeO.bind ?_ (fun _ => ?_)
set_option maxHeartbeats 8000000 in
set_option maxRecDepth 100000 in
theorem spec_l10Find.calls (k : Nat) (A0 : Option Addr) (c0 : Nat) (l0 : List (S55)) (a1_0 : Int) (a1_1 : Int) (r : Int) (w : World) (hr0 : Kd.C k55 w A0 l0.length l0) (hc0 : l0.length ≤ c0) (h : spec_l10Find.f k l0 a1_0 a1_1 = some r) :
  Calls Tryd.prog 57 #[.slice A0 l0.length c0, .agg #[.int .i64 a1_0, .int .i64 a1_1]] w fun e w' => e = .returned (.int .i64 r) ∧ Below w.heap.size w w' := by
 have hu55 := Tryd.underlying55; have HR0 := Aside0.mk hr0; have HC0 := Aside0.mk hc0; clear hr0 hc0; have HB := Aside0.mk (Below.refl w.heap.size w); have H : (spec_l10Find.l0 k l0 0 a1_0 a1_1) = some r := h; clear h; have H' := Aside0.mk H; clear H
 go_enter Tryd.func57, Tryd.ntmps57
 go_wp2_with (first | ((with_reducible refine gate_dst (N := 3) rfl ?_); refine box_y 3 #[.int .i64 a1_0, .int .i64 a1_1] 55 (h := ?_); intro gb115 hg w3 hbox hb; have n0_ := Aside0.mk (below_step (sq_below HB.out) hb); have n1_ := Aside0.mk (hbox); have n2_ := ge_ hg (below_size (sq_below HB.out)); have n3_ := ge_ hg (below_size (sq_below HB.out)); clear HB; have HB := n0_; have BK115 := n1_; have GW115 := n2_; have GE115 := n3_; clear n0_ n1_ n2_ n3_; clear hb hbox hg))
 repeat (go_quiet (first | ((with_reducible refine gate_dst (N := 3) rfl ?_); refine box_y 3 #[.int .i64 a1_0, .int .i64 a1_1] 55 (h := ?_); intro gb115 hg w3 hbox hb; have n0_ := Aside0.mk (below_step (sq_below HB.out) hb); have n1_ := Aside0.mk (hbox); have n2_ := ge_ hg (below_size (sq_below HB.out)); have n3_ := ge_ hg (below_size (sq_below HB.out)); clear HB; have HB := n0_; have BK115 := n1_; have GW115 := n2_; have GE115 := n3_; clear n0_ n1_ n2_ n3_; clear hb hbox hg)); try go_wp2_with (first | ((with_reducible refine gate_dst (N := 3) rfl ?_); refine box_y 3 #[.int .i64 a1_0, .int .i64 a1_1] 55 (h := ?_); intro gb115 hg w3 hbox hb; have n0_ := Aside0.mk (below_step (sq_below HB.out) hb); have n1_ := Aside0.mk (hbox); have n2_ := ge_ hg (below_size (sq_below HB.out)); have n3_ := ge_ hg (below_size (sq_below HB.out)); clear HB; have HB := n0_; have BK115 := n1_; have GW115 := n2_; have GE115 := n3_; clear n0_ n1_ n2_ n3_; clear hb hbox hg)))
 go_loopg [5] k (fun kq v5 w' => ∃ (x5_1 : Int), v5 = .int .i64 x5_1 ∧ Aside0 (spec_l10Find.l0 kq l0 x5_1 a1_0 a1_1 = some r) ∧ Aside0 (kq ≤ k) ∧ Aside0 (w'.heap[gb115]? = some (.cells #[.int .i64 a1_0, .int .i64 a1_1] 55 (0, 0))) ∧ Aside0 (Below w.heap.size w w'))
 case atStart => exact ⟨(0), (by first | rfl | (simp; done) | (simp [*]; done)), H', ⟨Nat.le_refl _⟩, bk_ BK115, ⟨sq_below1 HB.out GE115.out⟩⟩
 case round =>
  clear H'
  try clear p2
  obtain ⟨x5_1, rfl, HA, HK1, BK115, HB⟩ := hrel; cases gk with
  | zero => exact absurd HA.out (by simp [spec_l10Find.l0])
  | succ k1 =>
   have H := HA.out; clear HA; simp only [spec_l10Find.l0] at H
   by_cases c4 : x5_1 < (l0.length : Int)
   ·
    rw [if_pos c4] at H; have c4b0 : decide (x5_1 < (l0.length : Int)) = true := decide_eq_true c4; clear c4
    by_cases c5 : 0 ≤ x5_1
    ·
     rw [if_pos c5] at H; have c5b0 : decide (0 ≤ x5_1) = true := decide_eq_true c5; clear c5
     by_cases c6 : (((rd_T55 l0 x5_1).f0) == a1_0 && (((rd_T55 l0 x5_1).f1) == a1_1)) = true
     ·
      rw [if_pos c6] at H; have c6b0 : (((rd_T55 l0 x5_1).f0) == a1_0 && (((rd_T55 l0 x5_1).f1) == a1_1)) = true := c6
      (try (have c6b1 : decide (((rd_T55 l0 x5_1).f0) = a1_0 && (((rd_T55 l0 x5_1).f1) == a1_1)) = true := by simpa using c6))
      (try (have c6b2 : (((rd_T55 l0 x5_1).f0) == a1_0 && (((rd_T55 l0 x5_1).f1) == a1_1)) = true := by simpa using c6))
      clear c6; obtain rfl := Option.some.inj H; have p116 : 0 ≤ (x5_1 : Int) := sq_dec; have q116 : x5_1 < (l0.length : Int) := sq_dec; obtain ⟨ad116, e116, hx116_0, hx116_1⟩ := at_T55 HR0.out x5_1 p116 q116; cases e116; replace hx116_0 := (HB.out.cell (World.block_lt_of_cell? w _ hx116_0)).trans hx116_0; replace hx116_1 := (HB.out.cell (World.block_lt_of_cell? w _ hx116_1)).trans hx116_1; replace p116 := eq_true p116; replace q116 := eq_true q116; have hcz7_0 := cl_ (v := .int .i64 a1_0) BK115 0; have hcz7_1 := cl_ (v := .int .i64 a1_1) BK115 1; have hfz7_0 := blk_frozen BK115.out 0; have hfz7_1 := blk_frozen BK115.out 1
      go_wp2
      repeat (go_quiet (fail); try go_wp2)
      go_ret
      exact ⟨by first | rfl | (simp [errW_none, errW_some] <;> rfl) | (simp [*, errW_none, errW_some] <;> rfl), sq_below1 HB.out GE115.out⟩
     ·
      rw [if_neg c6] at H; have c6b0 : (((rd_T55 l0 x5_1).f0) == a1_0 && (((rd_T55 l0 x5_1).f1) == a1_1)) = false := by simpa using c6
      (try (have c6b1 : decide (((rd_T55 l0 x5_1).f0) = a1_0 && (((rd_T55 l0 x5_1).f1) == a1_1)) = false := by simpa using c6))
      (try (have c6b2 : (((rd_T55 l0 x5_1).f0) == a1_0 && (((rd_T55 l0 x5_1).f1) == a1_1)) = false := by simpa using c6))
      (try (have c6b3 : ¬ (((rd_T55 l0 x5_1).f0) = a1_0 && (((rd_T55 l0 x5_1).f1) == a1_1)) := by simpa using c6))
      clear c6; have H' := Aside0.mk H; clear H; have p116 : 0 ≤ (x5_1 : Int) := sq_dec; have q116 : x5_1 < (l0.length : Int) := sq_dec; obtain ⟨ad116, e116, hx116_0, hx116_1⟩ := at_T55 HR0.out x5_1 p116 q116; cases e116; replace hx116_0 := (HB.out.cell (World.block_lt_of_cell? w _ hx116_0)).trans hx116_0; replace hx116_1 := (HB.out.cell (World.block_lt_of_cell? w _ hx116_1)).trans hx116_1; replace p116 := eq_true p116; replace q116 := eq_true q116; have hcz8_0 := cl_ (v := .int .i64 a1_0) BK115 0; have hcz8_1 := cl_ (v := .int .i64 a1_1) BK115 1; have hfz8_0 := blk_frozen BK115.out 0; have hfz8_1 := blk_frozen BK115.out 1
      go_wp2
      repeat (go_quiet (fail); try go_wp2)
      go_roundg k1
      case measure => have := HK1.out; omega
      case rel => exact ⟨(wrap64 (x5_1 + 1)), (by first | rfl | (simp; done) | (simp [*]; done)), H', ⟨by have := HK1.out; omega⟩, bk_ BK115, ⟨sq_below1 HB.out GE115.out⟩⟩
    ·
     rw [if_neg c5] at H; exact absurd H (by simp)
   ·
    rw [if_neg c4] at H; have c4b0 : decide (x5_1 < (l0.length : Int)) = false := decide_eq_false c4; clear c4; obtain rfl := Option.some.inj H
    go_wp2
    repeat (go_quiet (fail); try go_wp2)
    go_ret
    exact ⟨by first | rfl | (simp [errW_none, errW_some] <;> rfl) | (simp [*, errW_none, errW_some] <;> rfl), sq_below1 HB.out GE115.out⟩

end Go.Proofs.YtfeloencepgdlaaDoor.Q
