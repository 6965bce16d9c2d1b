/- Functions of the translation as Lean functions, each with a proof that a call answers so; out of the seat, by this claim's own program prt.py: the last of them, in one text. -/
import Derived.Test.YtfeloencepgdlaaDoorWRepsOne
import Derived.Test.YtfeloencepgdlaaDoorQx0
import Derived.Test.YtfeloencepgdlaaDoorQStep
import Derived.Test.YtfeloencepgdlaaDoorWTab
import Derived.Test.YtfeloencepgdlaaDoorQx3
import Derived.Test.YtfeloencepgdlaaDoorQx9
import Derived.Test.YtfeloencepgdlaaDoorQx18
import Derived.Test.YtfeloencepgdlaaDoorQx28
import Derived.Test.YtfeloencepgdlaaDoorQx30
import Derived.Test.YtfeloencepgdlaaDoorQx31
import Derived.Test.YtfeloencepgdlaaDoorQx35
namespace Go.Proofs.YtfeloencepgdlaaDoor.Q
open Go.RowKit Go.Proofs.YtfeloencepgdlaaDoorW.PrintWords Go.Proofs.YtfeloencepgdlaaDoorW.PrintLast Go.Proofs.YtfeloencepgdlaaDoorW.PrintMore
attribute [local go_sem] max2_int min2_int max_two min_two max_three min_three max_four min_four   -- for this text's walks alone
set_option linter.unusedVariables false
set_option linter.unusedSimpArgs false

/-! ### laws_eqIntS: function 16 -/
def laws_eqIntS.l0 : Nat → List Int → List Int → Int → Option (Bool)
 | 0, _, _, _ => none
 | k + 1, x0, x1, x5 => if x5 < (x0.length : Int) then (if 0 ≤ x5 then (if x5 < (x1.length : Int) then (if (rd x0 x5) = (rd x1 x5) then (laws_eqIntS.l0 k x0 x1 (wrap64 (x5 + 1))) else (some false)) else (none)) else (none)) else (some true)
def laws_eqIntS.f (k : Nat) (l0 : List Int) (l1 : List Int) : Option (Bool) := if (l0.length : Int) = (l1.length : Int) then (laws_eqIntS.l0 k l0 l1 0) else (some false)
theorem laws_eqIntS.mono_l : ∀ k, (∀ y0 y1 y2, LeO (laws_eqIntS.l0 k y0 y1 y2) (laws_eqIntS.l0 (k + 1) y0 y1 y2))
 | 0 => fun _ _ _ r h => by simp [laws_eqIntS.l0] at h
 | k + 1 => by
  have ih0 := laws_eqIntS.mono_l k
  ·
   intro y0 y1 y2; unfold laws_eqIntS.l0
   repeat' first
   | (with_reducible exact ih0 _ _ _)
   | (with_reducible exact LeO.refl _)
   | (with_reducible exact LeO.none _)
   | (with_reducible refine LeO.ite ?_ ?_)
   | (with_reducible refine LeO.bind ?_ (fun _ => ?_))
   | exact ih0 _ _ _
   | exact LeO.none _
   | refine LeO.ite ?_ ?_
   | refine LeO.bind ?_ (fun _ => ?_)
theorem laws_eqIntS.mono : ∀ a0 a1 k, LeO (laws_eqIntS.f k a0 a1) (laws_eqIntS.f (k + 1) a0 a1) := by
 intro a0 a1 k; have ih0 := laws_eqIntS.mono_l k; unfold laws_eqIntS.f
 repeat' first
   | (with_reducible exact ih0 _ _ _)
   | (with_reducible exact LeO.refl _)
   | (with_reducible exact LeO.none _)
   | (with_reducible refine LeO.ite ?_ ?_)
   | (with_reducible refine LeO.bind ?_ (fun _ => ?_))
   | exact ih0 _ _ _
   | exact LeO.none _
   | refine LeO.ite ?_ ?_
   | refine LeO.bind ?_ (fun _ => ?_)
set_option maxHeartbeats 8000000 in
set_option maxRecDepth 100000 in
theorem laws_eqIntS.calls (k : Nat) (A0 : Option Addr) (c0 : Nat) (l0 : List Int) (A1 : Option Addr) (c1 : Nat) (l1 : List Int) (r : Bool) (w : World) (hr0 : Kd.C (Kd.int .i64) w A0 l0.length l0) (hc0 : l0.length ≤ c0) (hr1 : Kd.C (Kd.int .i64) w A1 l1.length l1) (hc1 : l1.length ≤ c1) (h : laws_eqIntS.f k l0 l1 = some r) :
  Calls Tryd.prog 16 #[.slice A0 l0.length c0, .slice A1 l1.length c1] w fun e w' => e = .returned (.bool r) ∧ Drawn0 w w' := by
 have HR0 := Aside0.mk hr0; have HC0 := Aside0.mk hc0; clear hr0 hc0; have HR1 := Aside0.mk hr1; have HC1 := Aside0.mk hc1; clear hr1 hc1; have H : (if (l0.length : Int) = (l1.length : Int) then (laws_eqIntS.l0 k l0 l1 0) else (some false)) = some r := h; clear h
 by_cases c3 : (l0.length : Int) = (l1.length : Int)
 ·
  rw [if_pos c3] at H; have c3b0 : ((l0.length : Int) == (l1.length : Int)) = true := beq_iff_eq.mpr c3; have c3b1 : ((l0.length : Int) != (l1.length : Int)) = false := bne_eq_false_iff_eq.mpr c3; have c3b2 : (l0.length == l1.length) = true := by first | simpa using c3 | (simp at c3 ⊢; omega)
  clear c3; have H' := Aside0.mk H; clear H
  go_enter Tryd.func16, Tryd.ntmps16
  go_wp2
  repeat (go_quiet (fail); try go_wp2)
  go_loopg [5] k (fun kq v5 w' => ∃ (x5_1 : Int), v5 = .int .i64 x5_1 ∧ Aside0 (laws_eqIntS.l0 kq l0 l1 x5_1 = some r) ∧ Aside0 (kq ≤ k) ∧ Drawn0 w w')
  case atStart => exact ⟨(0), (by first | rfl | (simp; done) | (simp [*]; done)), H', ⟨Nat.le_refl _⟩, by repeat (first | exact Drawn0.refl _ | apply Drawn0.step)⟩
  case round =>
   clear H'
   try clear c1
   try clear p2
   try clear c3
   try clear c3b0
   try clear c3b1
   try clear c3b2
   obtain ⟨x5_1, rfl, HA, HK1, ⟨m1, rfl⟩⟩ := hrel; cases gk with
   | zero => exact absurd HA.out (by simp [laws_eqIntS.l0])
   | succ k1 =>
    have H := HA.out; clear HA; simp only [laws_eqIntS.l0] at H
    by_cases c4 : x5_1 < (l0.length : Int)
    ·
     rw [if_pos c4] at H; have c4b0 : decide (x5_1 < (l0.length : Int)) = true := decide_eq_true c4; clear c4
     by_cases c5 : 0 ≤ x5_1
     ·
      rw [if_pos c5] at H; have c5b0 : decide (0 ≤ x5_1) = true := decide_eq_true c5; clear c5
      by_cases c6 : x5_1 < (l1.length : Int)
      ·
       rw [if_pos c6] at H; have c6b0 : decide (x5_1 < (l1.length : Int)) = true := decide_eq_true c6; clear c6
       by_cases c7 : (rd l0 x5_1) = (rd l1 x5_1)
       ·
        rw [if_pos c7] at H; have c7b0 : ((rd l0 x5_1) == (rd l1 x5_1)) = true := beq_iff_eq.mpr c7; have c7b1 : ((rd l0 x5_1) != (rd l1 x5_1)) = false := bne_eq_false_iff_eq.mpr c7; clear c7; have H' := Aside0.mk H; clear H; have p413 : 0 ≤ (x5_1 : Int) := sq_dec; have q413 : x5_1 < (l0.length : Int) := sq_dec; obtain ⟨ad413, e413, hx413_0⟩ := Kd.at_int HR0.out x5_1 p413 q413; cases e413; replace p413 := eq_true p413; replace q413 := eq_true q413; have p414 : 0 ≤ (x5_1 : Int) := sq_dec; have q414 : x5_1 < (l1.length : Int) := sq_dec; obtain ⟨ad414, e414, hx414_0⟩ := Kd.at_int HR1.out x5_1 p414 q414; cases e414; replace p414 := eq_true p414; replace q414 := eq_true q414
        go_wp2
        repeat (go_quiet (fail); try go_wp2)
        go_roundg k1
        case measure => have := HK1.out; omega
        case rel => exact ⟨(wrap64 (x5_1 + 1)), (by first | rfl | (simp; done) | (simp [*]; done)), H', ⟨by have := HK1.out; omega⟩, by repeat (first | exact Drawn0.refl _ | apply Drawn0.step)⟩
       ·
        rw [if_neg c7] at H; have c7b0 : ((rd l0 x5_1) == (rd l1 x5_1)) = false := beq_eq_false_iff_ne.mpr c7; have c7b1 : ((rd l0 x5_1) != (rd l1 x5_1)) = true := bne_iff_ne.mpr c7; obtain rfl := Option.some.inj H; have p413 : 0 ≤ (x5_1 : Int) := sq_dec; have q413 : x5_1 < (l0.length : Int) := sq_dec; obtain ⟨ad413, e413, hx413_0⟩ := Kd.at_int HR0.out x5_1 p413 q413; cases e413; replace p413 := eq_true p413; replace q413 := eq_true q413; have p414 : 0 ≤ (x5_1 : Int) := sq_dec; have q414 : x5_1 < (l1.length : Int) := sq_dec; obtain ⟨ad414, e414, hx414_0⟩ := Kd.at_int HR1.out x5_1 p414 q414; cases e414; replace p414 := eq_true p414; replace q414 := eq_true q414
        go_wp2
        repeat (go_quiet (fail); try go_wp2)
        go_ret
        exact ⟨by first | rfl | (simp; done) | (simp [*]; done), by repeat (first | exact Drawn0.refl _ | apply Drawn0.step)⟩
      ·
       rw [if_neg c6] at H; exact absurd H (by simp)
     ·
      rw [if_neg c5] at H; exact absurd H (by simp)
    ·
     rw [if_neg c4] at H; have c4b0 : decide (x5_1 < (l0.length : Int)) = false := decide_eq_false c4; clear c4; obtain rfl := Option.some.inj H
     go_wp2
     repeat (go_quiet (fail); try go_wp2)
     go_ret
     exact ⟨by first | rfl | (simp; done) | (simp [*]; done), by repeat (first | exact Drawn0.refl _ | apply Drawn0.step)⟩
 ·
  rw [if_neg c3] at H; have c3b0 : ((l0.length : Int) == (l1.length : Int)) = false := beq_eq_false_iff_ne.mpr c3; have c3b1 : ((l0.length : Int) != (l1.length : Int)) = true := bne_iff_ne.mpr c3; have c3b2 : (l0.length == l1.length) = false := by first | simpa using c3 | (simp at c3 ⊢; omega)
  obtain rfl := Option.some.inj H
  go_enter Tryd.func16, Tryd.ntmps16
  go_wp2
  repeat (go_quiet (fail); try go_wp2)
  go_ret
  exact ⟨by first | rfl | (simp; done) | (simp [*]; done), by repeat (first | exact Drawn0.refl _ | apply Drawn0.step)⟩

/-! ### laws_eqCell: function 51 -/
def laws_eqCell.f (a0_0 : Bool) (a0_1 : Int) (a1_0 : Bool) (a1_1 : Int) : Option (Bool) := if (a0_0 != a1_0) = true then (some false) else (if a0_1 = a1_1 then (some true) else (some false))
set_option maxHeartbeats 8000000 in
set_option maxRecDepth 100000 in
theorem laws_eqCell.calls (a0_0 : Bool) (a0_1 : Int) (a1_0 : Bool) (a1_1 : Int) (r : Bool) (w : World) (h : laws_eqCell.f a0_0 a0_1 a1_0 a1_1 = some r) :
  Calls Tryd.prog 51 #[.agg #[.bool a0_0, .int .i64 a0_1], .agg #[.bool a1_0, .int .i64 a1_1]] w fun e w' => e = .returned (.bool r) ∧ Below w.heap.size w w' := by
 have hu77 := Tryd.underlying77; have HB := Aside0.mk (Below.refl w.heap.size w); have H : (if (a0_0 != a1_0) = true then (some false) else (if a0_1 = a1_1 then (some true) else (some false))) = some r := h; clear h
 by_cases c3 : (a0_0 != a1_0) = true
 ·
  rw [if_pos c3] at H; have c3b0 : (a0_0 != a1_0) = true := c3
  (try (have c3b1 : decide (a0_0 = a1_0) = false := by simpa using c3))
  (try (have c3b2 : (a0_0 == a1_0) = false := by simpa using c3))
  (try (have c3b3 : ¬ (a0_0 = a1_0) := by simpa using c3))
  clear c3; obtain rfl := Option.some.inj H
  go_enter Tryd.func51, Tryd.ntmps51
  go_wp2_with (first | ((with_reducible refine gate_dst (N := 2) rfl ?_); refine box_y 2 #[.bool a0_0, .int .i64 a0_1] 77 (h := ?_); intro gb415 hg w4 hbox hb; have n0_ := Aside0.mk (below_step (sq_below HB.out) hb); have n1_ := Aside0.mk (hbox); have n2_ := ge_ hg (below_size (sq_below HB.out)); have n3_ := ge_ hg (below_size (sq_below HB.out)); clear HB; have HB := n0_; have BK415 := n1_; have GW415 := n2_; have GE415 := n3_; clear n0_ n1_ n2_ n3_; clear hb hbox hg) | ((with_reducible refine gate_dst (N := 3) rfl ?_); refine box_y 3 #[.bool a1_0, .int .i64 a1_1] 77 (h := ?_); intro gb416 hg w5 hbox hb; have n0_ := Aside0.mk (blk_below (sq_blk BK415.out) hb); have n1_ := Aside0.mk (below_step (sq_below1 HB.out GE415.out) hb); have n2_ := Aside0.mk (hbox); have n3_ := ge_ hg (below_size (sq_below1 HB.out GE415.out)); have n4_ := ge_ hg (below_size (sq_below1 HB.out GE415.out)); have n5_ := nb_ hg BK415; have n6_ := Aside0.mk (Ne.symm n5_.out); clear BK415; clear HB; have BK415 := n0_; have HB := n1_; have BK416 := n2_; have GW416 := n3_; have GE416 := n4_; have NB415_416 := n5_; have NB416_415 := n6_; clear n0_ n1_ n2_ n3_ n4_ n5_ n6_; clear hb hbox hg; have hnb6 := NB415_416.out; have hnc6 := NB416_415.out; have hcz7_0 := cl_ (v := .bool a0_0) BK415 0; have hcz7_1 := cl_ (v := .int .i64 a0_1) BK415 1; have hfz7_0 := blk_frozen BK415.out 0; have hfz7_1 := blk_frozen BK415.out 1; have hcz8_0 := cl_ (v := .bool a1_0) BK416 0; have hcz8_1 := cl_ (v := .int .i64 a1_1) BK416 1; have hfz8_0 := blk_frozen BK416.out 0; have hfz8_1 := blk_frozen BK416.out 1))
  go_ret
  exact ⟨by first | rfl | (simp [errW_none, errW_some] <;> rfl) | (simp [*, errW_none, errW_some] <;> rfl), sq_below1 HB.out GE416.out⟩
 ·
  rw [if_neg c3] at H; have c3b0 : (a0_0 != a1_0) = false := by simpa using c3
  (try (have c3b1 : decide (a0_0 = a1_0) = true := by simpa using c3))
  (try (have c3b2 : (a0_0 == a1_0) = true := by simpa using c3))
  clear c3
  by_cases c9 : a0_1 = a1_1
  ·
   rw [if_pos c9] at H; have c9b0 : (a0_1 == a1_1) = true := beq_iff_eq.mpr c9; have c9b1 : (a0_1 != a1_1) = false := bne_eq_false_iff_eq.mpr c9; clear c9; obtain rfl := Option.some.inj H
   go_enter Tryd.func51, Tryd.ntmps51
   go_wp2_with (first | ((with_reducible refine gate_dst (N := 2) rfl ?_); refine box_y 2 #[.bool a0_0, .int .i64 a0_1] 77 (h := ?_); intro gb415 hg w10 hbox hb; have n0_ := Aside0.mk (below_step (sq_below HB.out) hb); have n1_ := Aside0.mk (hbox); have n2_ := ge_ hg (below_size (sq_below HB.out)); have n3_ := ge_ hg (below_size (sq_below HB.out)); clear HB; have HB := n0_; have BK415 := n1_; have GW415 := n2_; have GE415 := n3_; clear n0_ n1_ n2_ n3_; clear hb hbox hg) | ((with_reducible refine gate_dst (N := 3) rfl ?_); refine box_y 3 #[.bool a1_0, .int .i64 a1_1] 77 (h := ?_); intro gb416 hg w11 hbox hb; have n0_ := Aside0.mk (blk_below (sq_blk BK415.out) hb); have n1_ := Aside0.mk (below_step (sq_below1 HB.out GE415.out) hb); have n2_ := Aside0.mk (hbox); have n3_ := ge_ hg (below_size (sq_below1 HB.out GE415.out)); have n4_ := ge_ hg (below_size (sq_below1 HB.out GE415.out)); have n5_ := nb_ hg BK415; have n6_ := Aside0.mk (Ne.symm n5_.out); clear BK415; clear HB; have BK415 := n0_; have HB := n1_; have BK416 := n2_; have GW416 := n3_; have GE416 := n4_; have NB415_416 := n5_; have NB416_415 := n6_; clear n0_ n1_ n2_ n3_ n4_ n5_ n6_; clear hb hbox hg; have hnb12 := NB415_416.out; have hnc12 := NB416_415.out; have hcz13_0 := cl_ (v := .bool a0_0) BK415 0; have hcz13_1 := cl_ (v := .int .i64 a0_1) BK415 1; have hfz13_0 := blk_frozen BK415.out 0; have hfz13_1 := blk_frozen BK415.out 1; have hcz14_0 := cl_ (v := .bool a1_0) BK416 0; have hcz14_1 := cl_ (v := .int .i64 a1_1) BK416 1; have hfz14_0 := blk_frozen BK416.out 0; have hfz14_1 := blk_frozen BK416.out 1))
   go_ret
   exact ⟨by first | rfl | (simp [errW_none, errW_some] <;> rfl) | (simp [*, errW_none, errW_some] <;> rfl), sq_below1 HB.out GE416.out⟩
  ·
   rw [if_neg c9] at H; have c9b0 : (a0_1 == a1_1) = false := beq_eq_false_iff_ne.mpr c9; have c9b1 : (a0_1 != a1_1) = true := bne_iff_ne.mpr c9; obtain rfl := Option.some.inj H
   go_enter Tryd.func51, Tryd.ntmps51
   go_wp2_with (first | ((with_reducible refine gate_dst (N := 2) rfl ?_); refine box_y 2 #[.bool a0_0, .int .i64 a0_1] 77 (h := ?_); intro gb415 hg w15 hbox hb; have n0_ := Aside0.mk (below_step (sq_below HB.out) hb); have n1_ := Aside0.mk (hbox); have n2_ := ge_ hg (below_size (sq_below HB.out)); have n3_ := ge_ hg (below_size (sq_below HB.out)); clear HB; have HB := n0_; have BK415 := n1_; have GW415 := n2_; have GE415 := n3_; clear n0_ n1_ n2_ n3_; clear hb hbox hg) | ((with_reducible refine gate_dst (N := 3) rfl ?_); refine box_y 3 #[.bool a1_0, .int .i64 a1_1] 77 (h := ?_); intro gb416 hg w16 hbox hb; have n0_ := Aside0.mk (blk_below (sq_blk BK415.out) hb); have n1_ := Aside0.mk (below_step (sq_below1 HB.out GE415.out) hb); have n2_ := Aside0.mk (hbox); have n3_ := ge_ hg (below_size (sq_below1 HB.out GE415.out)); have n4_ := ge_ hg (below_size (sq_below1 HB.out GE415.out)); have n5_ := nb_ hg BK415; have n6_ := Aside0.mk (Ne.symm n5_.out); clear BK415; clear HB; have BK415 := n0_; have HB := n1_; have BK416 := n2_; have GW416 := n3_; have GE416 := n4_; have NB415_416 := n5_; have NB416_415 := n6_; clear n0_ n1_ n2_ n3_ n4_ n5_ n6_; clear hb hbox hg; have hnb17 := NB415_416.out; have hnc17 := NB416_415.out; have hcz18_0 := cl_ (v := .bool a0_0) BK415 0; have hcz18_1 := cl_ (v := .int .i64 a0_1) BK415 1; have hfz18_0 := blk_frozen BK415.out 0; have hfz18_1 := blk_frozen BK415.out 1; have hcz19_0 := cl_ (v := .bool a1_0) BK416 0; have hcz19_1 := cl_ (v := .int .i64 a1_1) BK416 1; have hfz19_0 := blk_frozen BK416.out 0; have hfz19_1 := blk_frozen BK416.out 1))
   go_ret
   exact ⟨by first | rfl | (simp [errW_none, errW_some] <;> rfl) | (simp [*, errW_none, errW_some] <;> rfl), sq_below1 HB.out GE416.out⟩

end Go.Proofs.YtfeloencepgdlaaDoor.Q
namespace Go.Proofs.YtfeloencepgdlaaDoor.Q
open Go.RowKit Go.Proofs.YtfeloencepgdlaaDoorW.PrintWords Go.Proofs.YtfeloencepgdlaaDoorW.PrintLast Go.Proofs.YtfeloencepgdlaaDoorW.PrintMore
attribute [local go_sem] max2_int min2_int max_two min_two max_three min_three max_four min_four   -- for this text's walks alone
set_option linter.unusedVariables false
set_option linter.unusedSimpArgs false

/-! ### laws_eqCellS: function 17 -/
abbrev laws_eqCellS.b0_ : Array Bool := #[false, false, false, false, false, false, false, false, false, false]
abbrev laws_eqCellS.b1_ : Array Bool := #[true, false, false, false, false, false, false, false, false, false]
abbrev laws_eqCellS.b2_ : Array Bool := #[true, true, false, false, false, false, false, false, false, false]
abbrev laws_eqCellS.b3_ : Array Bool := #[true, true, true, false, false, false, false, false, false, false]
abbrev laws_eqCellS.b4_ : Array Bool := #[true, true, true, false, true, false, false, false, false, false]
abbrev laws_eqCellS.b5_ : Array Bool := #[true, true, true, false, true, true, false, false, false, false]
abbrev laws_eqCellS.b6_ : Array Bool := #[true, true, true, false, true, true, true, false, false, false]
abbrev laws_eqCellS.b7_ : Array Bool := #[true, true, true, true, true, true, true, false, false, false]
abbrev laws_eqCellS.b8_ : Array Bool := #[true, true, true, true, true, true, true, true, false, false]
abbrev laws_eqCellS.b9_ : Array Bool := #[true, true, true, true, true, true, true, true, true, false]
abbrev laws_eqCellS.b10_ : Array Bool := #[true, true, true, true, true, true, true, true, true, true]
def laws_eqCellS.l0 : Nat → List (S77) → List (S77) → Int → Option (Bool)
 | 0, _, _, _ => none
 | k + 1, x0, x1, x5 => if x5 < (x0.length : Int) then (if 0 ≤ x5 then (if x5 < (x1.length : Int) then ((laws_eqCell.f ((rd_T77 x0 x5).f0) ((rd_T77 x0 x5).f1) ((rd_T77 x1 x5).f0) ((rd_T77 x1 x5).f1)).bind fun t419 => (if t419 = true then (laws_eqCellS.l0 k x0 x1 (wrap64 (x5 + 1))) else (some false))) else (none)) else (none)) else (some true)
def laws_eqCellS.f (k : Nat) (l0 : List (S77)) (l1 : List (S77)) : Option (Bool) := if (l0.length : Int) = (l1.length : Int) then (laws_eqCellS.l0 k l0 l1 0) else (some false)
theorem laws_eqCellS.mono_l : ∀ k, (∀ y0 y1 y2, LeO (laws_eqCellS.l0 k y0 y1 y2) (laws_eqCellS.l0 (k + 1) y0 y1 y2))
 | 0 => fun _ _ _ r h => by simp [laws_eqCellS.l0] at h
 | k + 1 => by
  have ih0 := laws_eqCellS.mono_l k
  ·
   intro y0 y1 y2; unfold laws_eqCellS.l0
   repeat' first
   | (with_reducible exact ih0 _ _ _)
   | (with_reducible exact LeO.refl _)
   | (with_reducible exact LeO.none _)
   | (with_reducible refine LeO.ite ?_ ?_)
   | (with_reducible refine LeO.bind ?_ (fun _ => ?_))
   | exact ih0 _ _ _
   | exact LeO.none _
   | refine LeO.ite ?_ ?_
   | refine LeO.bind ?_ (fun _ => ?_)
theorem laws_eqCellS.mono : ∀ a0 a1 k, LeO (laws_eqCellS.f k a0 a1) (laws_eqCellS.f (k + 1) a0 a1) := by
 intro a0 a1 k; have ih0 := laws_eqCellS.mono_l k; unfold laws_eqCellS.f
 repeat' first
   | (with_reducible exact ih0 _ _ _)
   | (with_reducible exact LeO.refl _)
   | (with_reducible exact LeO.none _)
   | (with_reducible refine LeO.ite ?_ ?_)
   | (with_reducible refine LeO.bind ?_ (fun _ => ?_))
   | exact ih0 _ _ _
   | exact LeO.none _
   | refine LeO.ite ?_ ?_
   | refine LeO.bind ?_ (fun _ => ?_)
def laws_eqCellS.T6 : Bool × List (List Nat × List Nat) := (true, [([], []), ([], []), ([0, 1], [0, 1]), ([2], [2]), ([], []), ([], []), ([4, 5], [4, 5]), ([6], [6]), ([3, 7], [3, 7]), ([8], [8])])
def laws_eqCellS.B6 : List Nat := [0, 0, 3, 7, 0, 0, 48, 112, 255, 511]
theorem laws_eqCellS.tab6 : rtab .any (opsOf Tryd.f17 6) = laws_eqCellS.T6 := by kernel_rfl
theorem laws_eqCellS.bits6 : waitsOk laws_eqCellS.T6.2 laws_eqCellS.B6 = true := by kernel_rfl
set_option maxHeartbeats 8000000 in
set_option maxRecDepth 100000 in
theorem laws_eqCellS.calls (k : Nat) (A0 : Option Addr) (c0 : Nat) (l0 : List (S77)) (A1 : Option Addr) (c1 : Nat) (l1 : List (S77)) (r : Bool) (w : World) (hr0 : Kd.C k77 w A0 l0.length l0) (hc0 : l0.length ≤ c0) (hr1 : Kd.C k77 w A1 l1.length l1) (hc1 : l1.length ≤ c1) (h : laws_eqCellS.f k l0 l1 = some r) :
  Calls Tryd.prog 17 #[.slice A0 l0.length c0, .slice A1 l1.length c1] w fun e w' => e = .returned (.bool r) ∧ Below w.heap.size w w' := by
 have hu77 := Tryd.underlying77; have HR0 := Aside0.mk hr0; have HC0 := Aside0.mk hc0; clear hr0 hc0; have HR1 := Aside0.mk hr1; have HC1 := Aside0.mk hc1; clear hr1 hc1; have HB := Aside0.mk (Below.refl w.heap.size w); have H : (if (l0.length : Int) = (l1.length : Int) then (laws_eqCellS.l0 k l0 l1 0) else (some false)) = some r := h; clear h
 by_cases c3 : (l0.length : Int) = (l1.length : Int)
 ·
  rw [if_pos c3] at H; have c3b0 : ((l0.length : Int) == (l1.length : Int)) = true := beq_iff_eq.mpr c3; have c3b1 : ((l0.length : Int) != (l1.length : Int)) = false := bne_eq_false_iff_eq.mpr c3; have c3b2 : (l0.length == l1.length) = true := by first | simpa using c3 | (simp at c3 ⊢; omega)
  clear c3; have H' := Aside0.mk H; clear H
  go_enter Tryd.func17, Tryd.ntmps17
  go_wp2
  go_loopg [5] k (fun kq v5 w' => ∃ (x5_1 : Int), v5 = .int .i64 x5_1 ∧ Aside0 (laws_eqCellS.l0 kq l0 l1 x5_1 = some r) ∧ Aside0 (kq ≤ k) ∧ Aside0 (Below w.heap.size w w'))
  case atStart => exact ⟨(0), (by first | rfl | (simp; done) | (simp [*]; done)), H', ⟨Nat.le_refl _⟩, ⟨sq_below HB.out⟩⟩
  case round =>
   clear H'
   try clear c1
   try clear p2
   try clear c3
   try clear c3b0
   try clear c3b1
   try clear c3b2
   obtain ⟨x5_1, rfl, HA, HK1, HB⟩ := hrel; cases gk with
   | zero => exact absurd HA.out (by simp [laws_eqCellS.l0])
   | succ k1 =>
    have H := HA.out; clear HA; simp only [laws_eqCellS.l0] at H
    by_cases c4 : x5_1 < (l0.length : Int)
    ·
     rw [if_pos c4] at H; have c4b0 : decide (x5_1 < (l0.length : Int)) = true := decide_eq_true c4; clear c4
     by_cases c5 : 0 ≤ x5_1
     ·
      rw [if_pos c5] at H; have c5b0 : decide (0 ≤ x5_1) = true := decide_eq_true c5; clear c5
      by_cases c6 : x5_1 < (l1.length : Int)
      ·
       rw [if_pos c6] at H; have c6b0 : decide (x5_1 < (l1.length : Int)) = true := decide_eq_true c6; clear c6; replace H := Option.bind_eq_some_iff.mp H; obtain ⟨t419, A70, H⟩ := H; (try dsimp only at H); have A7 := Aside0.mk A70; clear A70
       by_cases c8 : t419 = true
       ·
        subst c8; have H1 := ifp_ H
        clear H; have H := H1; clear H1; have H' := Aside0.mk H; clear H
        try go_wp2
        replace HB := hd_ HB; have p417 : 0 ≤ (x5_1 : Int) := sq_dec; have q417 : x5_1 < (l0.length : Int) := sq_dec; obtain ⟨ad417, e417, hx417_0, hx417_1⟩ := at_T77 HR0.out x5_1 p417 q417; have hw417_1 := hx417_1; have hw417_0 := hx417_0; cases e417; replace hx417_0 := (HB.out.cell (World.block_lt_of_cell? w _ hx417_0)).trans hx417_0; replace hx417_1 := (HB.out.cell (World.block_lt_of_cell? w _ hx417_1)).trans hx417_1; replace p417 := eq_true p417; replace q417 := eq_true q417; have p418 : 0 ≤ (x5_1 : Int) := sq_dec; have q418 : x5_1 < (l1.length : Int) := sq_dec; obtain ⟨ad418, e418, hx418_0, hx418_1⟩ := at_T77 HR1.out x5_1 p418 q418; have hw418_1 := hx418_1; have hw418_0 := hx418_0; cases e418; replace hx418_0 := (HB.out.cell (World.block_lt_of_cell? w _ hx418_0)).trans hx418_0; replace hx418_1 := (HB.out.cell (World.block_lt_of_cell? w _ hx418_1)).trans hx418_1; replace p418 := eq_true p418; replace q418 := eq_true q418; refine start_ (n := 10) (S := fun w' => w'.cell? (ad417.add ((x5_1).toNat * 2)) = some (.bool ((rd_T77 l0 x5_1).f0)) ∧ w'.cell? ⟨(ad417.add ((x5_1).toNat * 2)).block, (ad417.add ((x5_1).toNat * 2)).off + 1, none⟩ = some (.int .i64 ((rd_T77 l0 x5_1).f1)) ∧ w'.cell? (ad418.add ((x5_1).toNat * 2)) = some (.bool ((rd_T77 l1 x5_1).f0)) ∧ w'.cell? ⟨(ad418.add ((x5_1).toNat * 2)).block, (ad418.add ((x5_1).toNat * 2)).off + 1, none⟩ = some (.int .i64 ((rd_T77 l1 x5_1).f1))) (ds := []) laws_eqCellS.b0_ (by kernel_rfl) rfl rfl ⟨((HB.out.cell (World.block_lt_of_cell? w _ hw417_0)).trans hw417_0), ((HB.out.cell (World.block_lt_of_cell? w _ hw417_1)).trans hw417_1), ((HB.out.cell (World.block_lt_of_cell? w _ hw418_0)).trans hw418_0), ((HB.out.cell (World.block_lt_of_cell? w _ hw418_1)).trans hw418_1)⟩ (fun hHeld => ?_); refine with_tabW laws_eqCellS.tab6 laws_eqCellS.bits6 (fun HT_ HW_ => ?_); generalize wr.drew = w9 at HB hx417_0 hx417_1 hx418_0 hx418_1 hHeld ⊢; refine pure_y 0 (some 17) laws_eqCellS.b1_ (any_of HT_.out (by kernel_rfl)) (h := ?_)
        refine pure_y 1 (some 18) laws_eqCellS.b2_ (any_of HT_.out (by kernel_rfl)) (h := ?_)
        refine pure_y 2 (some 19) laws_eqCellS.b3_ (any_of HT_.out (by kernel_rfl)) (h := ?_)
        refine pure_y 4 (some 21) laws_eqCellS.b4_ (any_of HT_.out (by kernel_rfl)) (h := ?_)
        refine pure_y 5 (some 22) laws_eqCellS.b5_ (any_of HT_.out (by kernel_rfl)) (h := ?_)
        refine pure_y 6 (some 23) laws_eqCellS.b6_ (any_of HT_.out (by kernel_rfl)) (h := ?_)
        refine take_y 3 (some 20) laws_eqCellS.b7_ rfl (take_ofW HT_.out HW_.out (by kernel_rfl)) hHeld (Or.inl ⟨by rfl, (by rintro w' ⟨s0, s1, s2, s3⟩; go_simp; with_reducible rfl)⟩) (h := ?_)
        refine take_y 7 (some 24) laws_eqCellS.b8_ rfl (take_ofW HT_.out HW_.out (by kernel_rfl)) hHeld (Or.inl ⟨by rfl, (by rintro w' ⟨s0, s1, s2, s3⟩; go_simp; with_reducible rfl)⟩) (h := ?_)
        refine one_ (i := 8) (N := some 25) laws_eqCellS.b9_ rfl rfl (one_of HT_.out (by kernel_rfl)) (by decide) (fun K hK => ?_); refine gs_ Tryd.func51 #[.agg #[.bool ((rd_T77 l0 x5_1).f0), .int .i64 ((rd_T77 l0 x5_1).f1)], .agg #[.bool ((rd_T77 l1 x5_1).f0), .int .i64 ((rd_T77 l1 x5_1).f1)]] (h := ?_); with_reducible refine (laws_eqCell.calls ((rd_T77 l0 x5_1).f0) ((rd_T77 l0 x5_1).f1) ((rd_T77 l1 x5_1).f0) ((rd_T77 l1 x5_1).f1) true _ A7.out).mono ?_
        rintro e w10 ⟨rfl, hb⟩; refine ⟨_, rfl, ?_⟩; replace HB := hb_ HB hb
        (try clear hb)
        (try clear hb2)
        (try clear hk)
        (try clear hi)
        refine hK.out _ _ ⟨((HB.out.cell (World.block_lt_of_cell? w _ hw417_0)).trans hw417_0), ((HB.out.cell (World.block_lt_of_cell? w _ hw417_1)).trans hw417_1), ((HB.out.cell (World.block_lt_of_cell? w _ hw418_0)).trans hw418_0), ((HB.out.cell (World.block_lt_of_cell? w _ hw418_1)).trans hw418_1)⟩ (fun hHeld => ?_); clear hK K; refine norm_y 25 (h := ?_)
        refine pure_y 9 (some 26) laws_eqCellS.b10_ (any_of HT_.out (by kernel_rfl)) (h := ?_)
        refine done_ (done_of HT_.out (by kernel_rfl)) ?_
        try go_wp2
        go_roundg k1
        case measure => have := HK1.out; omega
        case rel => exact ⟨(wrap64 (x5_1 + 1)), (by first | rfl | (simp; done) | (simp [*]; done)), H', ⟨by have := HK1.out; omega⟩, ⟨sq_below HB.out⟩⟩
       ·
        replace c8 := Bool.eq_false_iff.mpr c8; subst c8; have H1 := ifn_ H
        clear H; have H := H1; clear H1; obtain rfl := Option.some.inj H
        try go_wp2
        replace HB := hd_ HB; have p417 : 0 ≤ (x5_1 : Int) := sq_dec; have q417 : x5_1 < (l0.length : Int) := sq_dec; obtain ⟨ad417, e417, hx417_0, hx417_1⟩ := at_T77 HR0.out x5_1 p417 q417; have hw417_1 := hx417_1; have hw417_0 := hx417_0; cases e417; replace hx417_0 := (HB.out.cell (World.block_lt_of_cell? w _ hx417_0)).trans hx417_0; replace hx417_1 := (HB.out.cell (World.block_lt_of_cell? w _ hx417_1)).trans hx417_1; replace p417 := eq_true p417; replace q417 := eq_true q417; have p418 : 0 ≤ (x5_1 : Int) := sq_dec; have q418 : x5_1 < (l1.length : Int) := sq_dec; obtain ⟨ad418, e418, hx418_0, hx418_1⟩ := at_T77 HR1.out x5_1 p418 q418; have hw418_1 := hx418_1; have hw418_0 := hx418_0; cases e418; replace hx418_0 := (HB.out.cell (World.block_lt_of_cell? w _ hx418_0)).trans hx418_0; replace hx418_1 := (HB.out.cell (World.block_lt_of_cell? w _ hx418_1)).trans hx418_1; replace p418 := eq_true p418; replace q418 := eq_true q418; refine start_ (n := 10) (S := fun w' => w'.cell? (ad417.add ((x5_1).toNat * 2)) = some (.bool ((rd_T77 l0 x5_1).f0)) ∧ w'.cell? ⟨(ad417.add ((x5_1).toNat * 2)).block, (ad417.add ((x5_1).toNat * 2)).off + 1, none⟩ = some (.int .i64 ((rd_T77 l0 x5_1).f1)) ∧ w'.cell? (ad418.add ((x5_1).toNat * 2)) = some (.bool ((rd_T77 l1 x5_1).f0)) ∧ w'.cell? ⟨(ad418.add ((x5_1).toNat * 2)).block, (ad418.add ((x5_1).toNat * 2)).off + 1, none⟩ = some (.int .i64 ((rd_T77 l1 x5_1).f1))) (ds := []) laws_eqCellS.b0_ (by kernel_rfl) rfl rfl ⟨((HB.out.cell (World.block_lt_of_cell? w _ hw417_0)).trans hw417_0), ((HB.out.cell (World.block_lt_of_cell? w _ hw417_1)).trans hw417_1), ((HB.out.cell (World.block_lt_of_cell? w _ hw418_0)).trans hw418_0), ((HB.out.cell (World.block_lt_of_cell? w _ hw418_1)).trans hw418_1)⟩ (fun hHeld => ?_); refine with_tabW laws_eqCellS.tab6 laws_eqCellS.bits6 (fun HT_ HW_ => ?_); generalize wr.drew = w11 at HB hx417_0 hx417_1 hx418_0 hx418_1 hHeld ⊢; refine pure_y 0 (some 17) laws_eqCellS.b1_ (any_of HT_.out (by kernel_rfl)) (h := ?_)
        refine pure_y 1 (some 18) laws_eqCellS.b2_ (any_of HT_.out (by kernel_rfl)) (h := ?_)
        refine pure_y 2 (some 19) laws_eqCellS.b3_ (any_of HT_.out (by kernel_rfl)) (h := ?_)
        refine pure_y 4 (some 21) laws_eqCellS.b4_ (any_of HT_.out (by kernel_rfl)) (h := ?_)
        refine pure_y 5 (some 22) laws_eqCellS.b5_ (any_of HT_.out (by kernel_rfl)) (h := ?_)
        refine pure_y 6 (some 23) laws_eqCellS.b6_ (any_of HT_.out (by kernel_rfl)) (h := ?_)
        refine take_y 3 (some 20) laws_eqCellS.b7_ rfl (take_ofW HT_.out HW_.out (by kernel_rfl)) hHeld (Or.inl ⟨by rfl, (by rintro w' ⟨s0, s1, s2, s3⟩; go_simp; with_reducible rfl)⟩) (h := ?_)
        refine take_y 7 (some 24) laws_eqCellS.b8_ rfl (take_ofW HT_.out HW_.out (by kernel_rfl)) hHeld (Or.inl ⟨by rfl, (by rintro w' ⟨s0, s1, s2, s3⟩; go_simp; with_reducible rfl)⟩) (h := ?_)
        refine one_ (i := 8) (N := some 25) laws_eqCellS.b9_ rfl rfl (one_of HT_.out (by kernel_rfl)) (by decide) (fun K hK => ?_); refine gs_ Tryd.func51 #[.agg #[.bool ((rd_T77 l0 x5_1).f0), .int .i64 ((rd_T77 l0 x5_1).f1)], .agg #[.bool ((rd_T77 l1 x5_1).f0), .int .i64 ((rd_T77 l1 x5_1).f1)]] (h := ?_); with_reducible refine (laws_eqCell.calls ((rd_T77 l0 x5_1).f0) ((rd_T77 l0 x5_1).f1) ((rd_T77 l1 x5_1).f0) ((rd_T77 l1 x5_1).f1) false _ A7.out).mono ?_
        rintro e w12 ⟨rfl, hb⟩; refine ⟨_, rfl, ?_⟩; replace HB := hb_ HB hb
        (try clear hb)
        (try clear hb2)
        (try clear hk)
        (try clear hi)
        refine hK.out _ _ ⟨((HB.out.cell (World.block_lt_of_cell? w _ hw417_0)).trans hw417_0), ((HB.out.cell (World.block_lt_of_cell? w _ hw417_1)).trans hw417_1), ((HB.out.cell (World.block_lt_of_cell? w _ hw418_0)).trans hw418_0), ((HB.out.cell (World.block_lt_of_cell? w _ hw418_1)).trans hw418_1)⟩ (fun hHeld => ?_); clear hK K; refine norm_y 25 (h := ?_)
        refine pure_y 9 (some 26) laws_eqCellS.b10_ (any_of HT_.out (by kernel_rfl)) (h := ?_)
        refine done_ (done_of HT_.out (by kernel_rfl)) ?_
        try go_wp2
        go_ret
        exact ⟨by first | rfl | (simp [errW_none, errW_some] <;> rfl) | (simp [*, errW_none, errW_some] <;> rfl), sq_below HB.out⟩
      ·
       rw [if_neg c6] at H; exact absurd H (by simp)
     ·
      rw [if_neg c5] at H; exact absurd H (by simp)
    ·
     rw [if_neg c4] at H; have c4b0 : decide (x5_1 < (l0.length : Int)) = false := decide_eq_false c4; clear c4; obtain rfl := Option.some.inj H
     go_wp2
     go_ret
     exact ⟨by first | rfl | (simp [errW_none, errW_some] <;> rfl) | (simp [*, errW_none, errW_some] <;> rfl), sq_below HB.out⟩
 ·
  rw [if_neg c3] at H; have c3b0 : ((l0.length : Int) == (l1.length : Int)) = false := beq_eq_false_iff_ne.mpr c3; have c3b1 : ((l0.length : Int) != (l1.length : Int)) = true := bne_iff_ne.mpr c3; have c3b2 : (l0.length == l1.length) = false := by first | simpa using c3 | (simp at c3 ⊢; omega)
  obtain rfl := Option.some.inj H
  go_enter Tryd.func17, Tryd.ntmps17
  go_wp2
  go_ret
  exact ⟨by first | rfl | (simp [errW_none, errW_some] <;> rfl) | (simp [*, errW_none, errW_some] <;> rfl), sq_below HB.out⟩

end Go.Proofs.YtfeloencepgdlaaDoor.Q
namespace Go.Proofs.YtfeloencepgdlaaDoor.Q
open Go.RowKit Go.Proofs.YtfeloencepgdlaaDoorW.PrintWords Go.Proofs.YtfeloencepgdlaaDoorW.PrintLast Go.Proofs.YtfeloencepgdlaaDoorW.PrintMore
attribute [local go_sem] max2_int min2_int max_two min_two max_three min_three max_four min_four   -- for this text's walks alone
set_option linter.unusedVariables false
set_option linter.unusedSimpArgs false

/-! ### laws_FnExactSegHas: function 4 -/
def laws_FnExactSegHas.f (k : Nat) (a0 : Int) (a1 : Int) (l2_0 : List (List (S110))) (l2_1 : List (S95)) (l2_2 : List Bool) (l3 : List Int) (l4 : List (S79)) : Option (Bool) := if (l3.length : Int) > 1048576 then (some true) else ((laws_szSeg.f k l2_0 l2_1 l2_2 1048576).bind fun t421 => (if t421 < 0 then (some true) else ((laws_szCellS.f l4 t421).bind fun t422 => (if t422 < 0 then (some true) else ((laws_toSeg.f k l2_0 l2_1 l2_2).bind fun bt423 => ((laws_toIntS.f k l3).bind fun t432 => ((laws_toCellS.f k l4).bind fun t435 => ((spec_SegHas.f k a0 a1 bt423.1 bt423.2.1 bt423.2.2 t432 t435).bind fun t438 => ((laws_toSeg.f k l2_0 l2_1 l2_2).bind fun bt439 => ((laws_toIntS.f k l3).bind fun t449 => ((laws_toCellS.f k l4).bind fun t452 => ((impl_SegHas.f k a0 a1 bt439.1 bt439.2.1 bt439.2.2 t449 t452).bind fun t455 => (if (t455 != t438) = true then (some false) else ((laws_toSeg.f k l2_0 l2_1 l2_2).bind fun bt456 => ((laws_eqSeg.f k bt439.1 bt439.2.1 bt439.2.2 bt456.1 bt456.2.1 bt456.2.2).bind fun t465 => (if t465 = true then ((laws_toIntS.f k l3).bind fun t466 => ((laws_eqIntS.f k t449 t466).bind fun t469 => (if t469 = true then ((laws_toCellS.f k l4).bind fun t470 => ((laws_eqCellS.f k t452 t470).bind fun t473 => (if t473 = true then (some true) else (some false)))) else (some false)))) else (some false)))))))))))))))))
theorem laws_FnExactSegHas.mono : ∀ a0 a1 a2 a3 a4 a5 a6 k, LeO (laws_FnExactSegHas.f k a0 a1 a2 a3 a4 a5 a6) (laws_FnExactSegHas.f (k + 1) a0 a1 a2 a3 a4 a5 a6) := by
 intro a0 a1 a2 a3 a4 a5 a6 k; unfold laws_FnExactSegHas.f
 repeat' first
   | (with_reducible exact impl_SegHas.mono _ _ _ _ _ _ _ _)
   | (with_reducible exact laws_eqCellS.mono _ _ _)
   | (with_reducible exact laws_eqIntS.mono _ _ _)
   | (with_reducible exact laws_eqSeg.mono _ _ _ _ _ _ _)
   | (with_reducible exact laws_szSeg.mono _ _ _ _ _)
   | (with_reducible exact laws_toCellS.mono _ _)
   | (with_reducible exact laws_toIntS.mono _ _)
   | (with_reducible exact laws_toSeg.mono _ _ _ _)
   | (with_reducible exact spec_SegHas.mono _ _ _ _ _ _ _ _)
   | (with_reducible exact LeO.refl _)
   | (with_reducible exact LeO.none _)
   | (with_reducible refine LeO.ite ?_ ?_)
   | (with_reducible refine LeO.bind ?_ (fun _ => ?_))
   | exact impl_SegHas.mono _ _ _ _ _ _ _ _
   | exact laws_eqCellS.mono _ _ _
   | exact laws_eqIntS.mono _ _ _
   | exact laws_eqSeg.mono _ _ _ _ _ _ _
   | exact laws_szSeg.mono _ _ _ _ _
   | exact laws_toCellS.mono _ _
   | exact laws_toIntS.mono _ _
   | exact laws_toSeg.mono _ _ _ _
   | exact spec_SegHas.mono _ _ _ _ _ _ _ _
   | exact LeO.none _
   | refine LeO.ite ?_ ?_
   | refine LeO.bind ?_ (fun _ => ?_)
set_option maxHeartbeats 8000000 in
set_option maxRecDepth 100000 in
theorem laws_FnExactSegHas.calls (k : Nat) (a0 : Int) (a1 : Int) (A2_0 : Option Addr) (c2_0 : Nat) (l2_0 : List (List (S110))) (A2_1 : Option Addr) (c2_1 : Nat) (l2_1 : List (S95)) (A2_2 : Option Addr) (c2_2 : Nat) (l2_2 : List Bool) (A3 : Option Addr) (c3 : Nat) (l3 : List Int) (A4 : Option Addr) (c4 : Nat) (l4 : List (S79)) (r : Bool) (w : World) (hG0 : GL0 w) (hr2_0 : Kd.C (Kd.slice 110 k110) w A2_0 l2_0.length l2_0) (hc2_0 : l2_0.length ≤ c2_0) (hr2_1 : Kd.C k95 w A2_1 l2_1.length l2_1) (hc2_1 : l2_1.length ≤ c2_1) (hr2_2 : Kd.C Kd.bool w A2_2 l2_2.length l2_2) (hc2_2 : l2_2.length ≤ c2_2) (hr3 : Kd.C (Kd.int .i64) w A3 l3.length l3) (hc3 : l3.length ≤ c3) (hr4 : Kd.C k79 w A4 l4.length l4) (hc4 : l4.length ≤ c4) (h : laws_FnExactSegHas.f k a0 a1 l2_0 l2_1 l2_2 l3 l4 = some r) (hr_ : r = true) :
  Calls Tryd.prog 4 #[.int .i64 a0, .int .i64 a1, .agg #[.slice A2_0 l2_0.length c2_0, .slice A2_1 l2_1.length c2_1, .slice A2_2 l2_2.length c2_2], .slice A3 l3.length c3, .slice A4 l4.length c4] w fun e w' => e = .returned (.bool r) ∧ Below w.heap.size w w' := by
 have hu26 := Tryd.underlying26; have hu32 := Tryd.underlying32; have HR2_0 := Aside0.mk hr2_0; have HC2_0 := Aside0.mk hc2_0; clear hr2_0 hc2_0; have HR2_1 := Aside0.mk hr2_1; have HC2_1 := Aside0.mk hc2_1; clear hr2_1 hc2_1; have HR2_2 := Aside0.mk hr2_2; have HC2_2 := Aside0.mk hc2_2; clear hr2_2 hc2_2; have HR3 := Aside0.mk hr3; have HC3 := Aside0.mk hc3; clear hr3 hc3; have HR4 := Aside0.mk hr4; have HC4 := Aside0.mk hc4; clear hr4 hc4; have HB := Aside0.mk (Below.refl w.heap.size w); have HG0 := Aside0.mk hG0; clear hG0; have H : (if (l3.length : Int) > 1048576 then (some true) else ((laws_szSeg.f k l2_0 l2_1 l2_2 1048576).bind fun t421 => (if t421 < 0 then (some true) else ((laws_szCellS.f l4 t421).bind fun t422 => (if t422 < 0 then (some true) else ((laws_toSeg.f k l2_0 l2_1 l2_2).bind fun bt423 => ((laws_toIntS.f k l3).bind fun t432 => ((laws_toCellS.f k l4).bind fun t435 => ((spec_SegHas.f k a0 a1 bt423.1 bt423.2.1 bt423.2.2 t432 t435).bind fun t438 => ((laws_toSeg.f k l2_0 l2_1 l2_2).bind fun bt439 => ((laws_toIntS.f k l3).bind fun t449 => ((laws_toCellS.f k l4).bind fun t452 => ((impl_SegHas.f k a0 a1 bt439.1 bt439.2.1 bt439.2.2 t449 t452).bind fun t455 => (if (t455 != t438) = true then (some false) else ((laws_toSeg.f k l2_0 l2_1 l2_2).bind fun bt456 => ((laws_eqSeg.f k bt439.1 bt439.2.1 bt439.2.2 bt456.1 bt456.2.1 bt456.2.2).bind fun t465 => (if t465 = true then ((laws_toIntS.f k l3).bind fun t466 => ((laws_eqIntS.f k t449 t466).bind fun t469 => (if t469 = true then ((laws_toCellS.f k l4).bind fun t470 => ((laws_eqCellS.f k t452 t470).bind fun t473 => (if t473 = true then (some true) else (some false)))) else (some false)))) else (some false)))))))))))))))))) = some r := h; clear h
 by_cases c6 : (l3.length : Int) > 1048576
 ·
  rw [if_pos c6] at H; have c6b0 : decide (1048576 < (l3.length : Int)) = true := decide_eq_true c6; have c6b1 : decide (1048576 < l3.length) = true := decide_eq_true (by omega); clear c6; obtain rfl := Option.some.inj H
  go_enter Tryd.func4, Tryd.ntmps4
  go_wp2_with (first | ((with_reducible refine gate_dst (N := 7) rfl ?_); refine box_y 7 #[.slice A2_0 l2_0.length c2_0, .slice A2_1 l2_1.length c2_1, .slice A2_2 l2_2.length c2_2] 26 (h := ?_); intro gb420 hg w7 hbox hb; have n0_ := Aside0.mk (below_step (sq_below HB.out) hb); have n1_ := Aside0.mk (hbox); have n2_ := ge_ hg (below_size (sq_below HB.out)); have n3_ := ge_ hg (below_size (sq_below HB.out)); clear HB; have HB := n0_; have BK420 := n1_; have GW420 := n2_; have GE420 := n3_; clear n0_ n1_ n2_ n3_; clear hb hbox hg))
  go_ret
  exact ⟨by first | rfl | (simp [errW_none, errW_some] <;> rfl) | (simp [*, errW_none, errW_some] <;> rfl), sq_below1 HB.out GE420.out⟩
 ·
  rw [if_neg c6] at H; have c6b0 : decide (1048576 < (l3.length : Int)) = false := decide_eq_false c6; have c6b1 : decide (1048576 < l3.length) = false := decide_eq_false (by omega); clear c6; replace H := Option.bind_eq_some_iff.mp H; obtain ⟨t421, A80, H⟩ := H; (try dsimp only at H); have A8 := Aside0.mk A80; clear A80
  by_cases c9 : t421 < 0
  ·
   rw [if_pos c9] at H; have c9b0 : decide (t421 < 0) = true := decide_eq_true c9; clear c9; obtain rfl := Option.some.inj H
   go_enter Tryd.func4, Tryd.ntmps4
   go_wp2_with (first | ((with_reducible refine gate_dst (N := 7) rfl ?_); refine box_y 7 #[.slice A2_0 l2_0.length c2_0, .slice A2_1 l2_1.length c2_1, .slice A2_2 l2_2.length c2_2] 26 (h := ?_); intro gb420 hg w10 hbox hb; have n0_ := Aside0.mk (below_step (sq_below HB.out) hb); have n1_ := Aside0.mk (hbox); have n2_ := ge_ hg (below_size (sq_below HB.out)); have n3_ := ge_ hg (below_size (sq_below HB.out)); clear HB; have HB := n0_; have BK420 := n1_; have GW420 := n2_; have GE420 := n3_; clear n0_ n1_ n2_ n3_; clear hb hbox hg; have hcz11_0 := cl_ (v := .slice A2_0 l2_0.length c2_0) BK420 0; have hcz11_1 := cl_ (v := .slice A2_1 l2_1.length c2_1) BK420 1; have hcz11_2 := cl_ (v := .slice A2_2 l2_2.length c2_2) BK420 2; have hfz11_0 := blk_frozen BK420.out 0; have hfz11_1 := blk_frozen BK420.out 1; have hfz11_2 := blk_frozen BK420.out 2) | ((with_reducible refine gate_callee (f := 6) rfl ?_); refine gl_ 22 Tryd.func6 #[.agg #[.slice A2_0 l2_0.length c2_0, .slice A2_1 l2_1.length c2_1, .slice A2_2 l2_2.length c2_2], .int .i64 1048576] (h := ?_); (with_reducible refine (laws_szSeg.calls k _ _ l2_0 _ _ l2_1 _ _ l2_2 1048576 t421 _ ?side1 ?side2 ?side3 ?side4 ?side5 ?side6 A8.out).mono ?_); (case side1 => exact sq_c (Kd.C_below HR2_0.out HB.out)); (case side2 => exact HC2_0.out); (case side3 => exact sq_c (Kd.C_below HR2_1.out HB.out)); (case side4 => exact HC2_1.out); (case side5 => exact sq_c (Kd.C_below HR2_2.out HB.out)); (case side6 => exact HC2_2.out); rintro e w12 ⟨rfl, hb⟩; refine ⟨_, rfl, ?_⟩; replace HB := hb_ HB hb; (try clear hb)))
   go_ret
   exact ⟨by first | rfl | (simp [errW_none, errW_some] <;> rfl) | (simp [*, errW_none, errW_some] <;> rfl), sq_below HB.out⟩
  ·
   rw [if_neg c9] at H; have c9b0 : decide (t421 < 0) = false := decide_eq_false c9; clear c9; replace H := Option.bind_eq_some_iff.mp H; obtain ⟨t422, A130, H⟩ := H; (try dsimp only at H); have A13 := Aside0.mk A130; clear A130
   by_cases c14 : t422 < 0
   ·
    rw [if_pos c14] at H; have c14b0 : decide (t422 < 0) = true := decide_eq_true c14; clear c14; obtain rfl := Option.some.inj H
    go_enter Tryd.func4, Tryd.ntmps4
    go_wp2_with (first | ((with_reducible refine gate_dst (N := 7) rfl ?_); refine box_y 7 #[.slice A2_0 l2_0.length c2_0, .slice A2_1 l2_1.length c2_1, .slice A2_2 l2_2.length c2_2] 26 (h := ?_); intro gb420 hg w15 hbox hb; have n0_ := Aside0.mk (below_step (sq_below HB.out) hb); have n1_ := Aside0.mk (hbox); have n2_ := ge_ hg (below_size (sq_below HB.out)); have n3_ := ge_ hg (below_size (sq_below HB.out)); clear HB; have HB := n0_; have BK420 := n1_; have GW420 := n2_; have GE420 := n3_; clear n0_ n1_ n2_ n3_; clear hb hbox hg; have hcz16_0 := cl_ (v := .slice A2_0 l2_0.length c2_0) BK420 0; have hcz16_1 := cl_ (v := .slice A2_1 l2_1.length c2_1) BK420 1; have hcz16_2 := cl_ (v := .slice A2_2 l2_2.length c2_2) BK420 2; have hfz16_0 := blk_frozen BK420.out 0; have hfz16_1 := blk_frozen BK420.out 1; have hfz16_2 := blk_frozen BK420.out 2) | ((with_reducible refine gate_callee (f := 6) rfl ?_); refine gl_ 22 Tryd.func6 #[.agg #[.slice A2_0 l2_0.length c2_0, .slice A2_1 l2_1.length c2_1, .slice A2_2 l2_2.length c2_2], .int .i64 1048576] (h := ?_); (with_reducible refine (laws_szSeg.calls k _ _ l2_0 _ _ l2_1 _ _ l2_2 1048576 t421 _ ?side1 ?side2 ?side3 ?side4 ?side5 ?side6 A8.out).mono ?_); (case side1 => exact sq_c (Kd.C_below HR2_0.out HB.out)); (case side2 => exact HC2_0.out); (case side3 => exact sq_c (Kd.C_below HR2_1.out HB.out)); (case side4 => exact HC2_1.out); (case side5 => exact sq_c (Kd.C_below HR2_2.out HB.out)); (case side6 => exact HC2_2.out); rintro e w17 ⟨rfl, hb⟩; refine ⟨_, rfl, ?_⟩; replace HB := hb_ HB hb; (try clear hb)) | ((with_reducible refine gate_callee (f := 11) rfl ?_); refine gl_ 27 Tryd.func11 #[.slice A4 l4.length c4, .int .i64 t421] (h := ?_); (with_reducible refine (laws_szCellS.calls _ _ l4 t421 t422 _ ?side1 ?side2 A13.out).mono ?_); (case side1 => exact sq_c (Kd.C_below HR4.out HB.out)); (case side2 => exact HC4.out); rintro e w' ⟨rfl, ⟨nd, rfl⟩⟩; refine ⟨_, rfl, ?_⟩))
    go_ret
    exact ⟨by first | rfl | (simp [errW_none, errW_some] <;> rfl) | (simp [*, errW_none, errW_some] <;> rfl), sq_below HB.out⟩
   ·
    rw [if_neg c14] at H; have c14b0 : decide (t422 < 0) = false := decide_eq_false c14; clear c14; replace H := Option.bind_eq_some_iff.mp H; obtain ⟨⟨t423, t426, t429⟩, A180, H⟩ := H; (try dsimp only at H); have A18 := Aside0.mk A180; clear A180; replace H := Option.bind_eq_some_iff.mp H; obtain ⟨t432, A190, H⟩ := H; (try dsimp only at H); have A19 := Aside0.mk A190; clear A190; replace H := Option.bind_eq_some_iff.mp H; obtain ⟨t435, A200, H⟩ := H; (try dsimp only at H); have A20 := Aside0.mk A200; clear A200; replace H := Option.bind_eq_some_iff.mp H; obtain ⟨t438, A210, H⟩ := H; (try dsimp only at H); have A21 := Aside0.mk A210; clear A210; replace H := Option.bind_eq_some_iff.mp H; obtain ⟨⟨t439, t442, t445⟩, A220, H⟩ := H; (try dsimp only at H); have A22 := Aside0.mk A220; clear A220; replace H := Option.bind_eq_some_iff.mp H; obtain ⟨t449, A230, H⟩ := H; (try dsimp only at H); have A23 := Aside0.mk A230; clear A230; replace H := Option.bind_eq_some_iff.mp H; obtain ⟨t452, A240, H⟩ := H; (try dsimp only at H); have A24 := Aside0.mk A240; clear A240; replace H := Option.bind_eq_some_iff.mp H; obtain ⟨t455, A250, H⟩ := H; (try dsimp only at H); have A25 := Aside0.mk A250; clear A250
    by_cases c26 : (t455 != t438) = true
    ·
     rw [if_pos c26] at H; have c26b0 : (t455 != t438) = true := c26
     (try (have c26b1 : decide (t455 = t438) = false := by simpa using c26))
     (try (have c26b2 : (t455 == t438) = false := by simpa using c26))
     (try (have c26b3 : ¬ (t455 = t438) := by simpa using c26))
     clear c26; exact absurd ((Option.some.inj H).trans hr_) Bool.false_ne_true
    ·
     rw [if_neg c26] at H; have c26b0 : (t455 != t438) = false := by simpa using c26
     (try (have c26b1 : decide (t455 = t438) = true := by simpa using c26))
     (try (have c26b2 : (t455 == t438) = true := by simpa using c26))
     clear c26; replace H := Option.bind_eq_some_iff.mp H; obtain ⟨⟨t456, t459, t462⟩, A270, H⟩ := H; (try dsimp only at H); have A27 := Aside0.mk A270; clear A270; replace H := Option.bind_eq_some_iff.mp H; obtain ⟨t465, A280, H⟩ := H; (try dsimp only at H); have A28 := Aside0.mk A280; clear A280
     by_cases c29 : t465 = true
     ·
      subst c29; have H1 := ifp_ H
      clear H; have H := H1; clear H1; replace H := Option.bind_eq_some_iff.mp H; obtain ⟨t466, A300, H⟩ := H; (try dsimp only at H); have A30 := Aside0.mk A300; clear A300; replace H := Option.bind_eq_some_iff.mp H; obtain ⟨t469, A310, H⟩ := H; (try dsimp only at H); have A31 := Aside0.mk A310; clear A310
      by_cases c32 : t469 = true
      ·
       subst c32; have H1 := ifp_ H
       clear H; have H := H1; clear H1; replace H := Option.bind_eq_some_iff.mp H; obtain ⟨t470, A330, H⟩ := H; (try dsimp only at H); have A33 := Aside0.mk A330; clear A330; replace H := Option.bind_eq_some_iff.mp H; obtain ⟨t473, A340, H⟩ := H; (try dsimp only at H); have A34 := Aside0.mk A340; clear A340
       by_cases c35 : t473 = true
       ·
        subst c35; have H1 := ifp_ H
        clear H; have H := H1; clear H1; obtain rfl := Option.some.inj H
        go_enter Tryd.func4, Tryd.ntmps4
        try go_wp2_with (first | ((with_reducible refine gate_dst (N := 7) rfl ?_); refine box_y 7 #[.slice A2_0 l2_0.length c2_0, .slice A2_1 l2_1.length c2_1, .slice A2_2 l2_2.length c2_2] 26 (h := ?_); intro gb420 hg w36 hbox hb; have n0_ := Aside0.mk (below_step (sq_below HB.out) hb); have n1_ := Aside0.mk (hbox); have n2_ := ge_ hg (below_size (sq_below HB.out)); have n3_ := ge_ hg (below_size (sq_below HB.out)); clear HB; have HB := n0_; have BK420 := n1_; have GW420 := n2_; have GE420 := n3_; clear n0_ n1_ n2_ n3_; clear hb hbox hg; have hcz37_0 := cl_ (v := .slice A2_0 l2_0.length c2_0) BK420 0; have hcz37_1 := cl_ (v := .slice A2_1 l2_1.length c2_1) BK420 1; have hcz37_2 := cl_ (v := .slice A2_2 l2_2.length c2_2) BK420 2; have hfz37_0 := blk_frozen BK420.out 0; have hfz37_1 := blk_frozen BK420.out 1; have hfz37_2 := blk_frozen BK420.out 2) | ((with_reducible refine gate_callee (f := 6) rfl ?_); refine gl_ 22 Tryd.func6 #[.agg #[.slice A2_0 l2_0.length c2_0, .slice A2_1 l2_1.length c2_1, .slice A2_2 l2_2.length c2_2], .int .i64 1048576] (h := ?_); (with_reducible refine (laws_szSeg.calls k _ _ l2_0 _ _ l2_1 _ _ l2_2 1048576 t421 _ ?side1 ?side2 ?side3 ?side4 ?side5 ?side6 A8.out).mono ?_); (case side1 => exact sq_c (Kd.C_below HR2_0.out HB.out)); (case side2 => exact HC2_0.out); (case side3 => exact sq_c (Kd.C_below HR2_1.out HB.out)); (case side4 => exact HC2_1.out); (case side5 => exact sq_c (Kd.C_below HR2_2.out HB.out)); (case side6 => exact HC2_2.out); rintro e w38 ⟨rfl, hb⟩; refine ⟨_, rfl, ?_⟩; replace BK420 := bb_ BK420 hb; replace HB := hb1_ HB hb GE420; (try clear hb)) | ((with_reducible refine gate_callee (f := 11) rfl ?_); refine gl_ 27 Tryd.func11 #[.slice A4 l4.length c4, .int .i64 t421] (h := ?_); (with_reducible refine (laws_szCellS.calls _ _ l4 t421 t422 _ ?side1 ?side2 A13.out).mono ?_); (case side1 => exact sq_c (Kd.C_below HR4.out HB.out)); (case side2 => exact HC4.out); rintro e w' ⟨rfl, ⟨nd, rfl⟩⟩; refine ⟨_, rfl, ?_⟩; (try (rw [drewN_self w38]; generalize hq_ : World.drewN w38 _ = w38; replace BK420 := bq_ hq_ BK420; replace HB := hq1_ hq_ HB GE420; clear hq_)); have hcz39_0 := cl_ (v := .slice A2_0 l2_0.length c2_0) BK420 0; have hcz39_1 := cl_ (v := .slice A2_1 l2_1.length c2_1) BK420 1; have hcz39_2 := cl_ (v := .slice A2_2 l2_2.length c2_2) BK420 2; have hfz39_0 := blk_frozen BK420.out 0; have hfz39_1 := blk_frozen BK420.out 1; have hfz39_2 := blk_frozen BK420.out 2) | ((with_reducible refine gate_callee (f := 8) rfl ?_); refine gl_ 33 Tryd.func8 #[.agg #[.slice A2_0 l2_0.length c2_0, .slice A2_1 l2_1.length c2_1, .slice A2_2 l2_2.length c2_2]] (h := ?_); (with_reducible refine (laws_toSeg.calls k _ _ l2_0 _ _ l2_1 _ _ l2_2 t423 t426 t429 _ ?side1 ?side2 ?side3 ?side4 ?side5 ?side6 A18.out).mono ?_); (case side1 => exact sq_c (Kd.C_below HR2_0.out HB.out)); (case side2 => exact HC2_0.out); (case side3 => exact sq_c (Kd.C_below HR2_1.out HB.out)); (case side4 => exact HC2_1.out); (case side5 => exact sq_c (Kd.C_below HR2_2.out HB.out)); (case side6 => exact HC2_2.out); rintro e w40 ⟨v424, v427, v430, rfl, ho0, ho1, ho2, hb⟩; refine ⟨_, rfl, ?_⟩; have n0_ := Aside0.mk (Kd.S_lower ho0 (below_size (sq_below1 HB.out GE420.out))); have n1_ := Aside0.mk (Kd.R_lower ho1 (below_size (sq_below1 HB.out GE420.out))); have n2_ := Aside0.mk (Kd.R_lower ho2 (below_size (sq_below1 HB.out GE420.out))); have n3_ := Aside0.mk (blk_below (sq_blk BK420.out) hb); have n4_ := Aside0.mk (below_step (sq_below1 HB.out GE420.out) hb); clear BK420; clear HB; have HO425 := n0_; have HO428 := n1_; have HO431 := n2_; have BK420 := n3_; have HB := n4_; clear n0_ n1_ n2_ n3_ n4_; (try clear hb); (try clear ho0); (try clear ho1); (try clear ho2)) | ((with_reducible refine gate_callee (f := 13) rfl ?_); refine gl_ 35 Tryd.func13 #[.slice A3 l3.length c3] (h := ?_); (with_reducible refine (laws_toIntS.calls k _ _ l3 t432 _ ?side1 ?side2 A19.out).mono ?_); (case side1 => exact sq_c (Kd.C_below HR3.out HB.out)); (case side2 => exact HC3.out); rintro e w41 ⟨v433, rfl, ho0, hb⟩; refine ⟨_, rfl, ?_⟩; have n0_ := Aside0.mk (Kd.S_below (by (with_reducible repeat (first | apply Kd.S_alloc | apply Kd.S_drewN | apply Kd.S_drew)); exact HO425.out) hb); have n1_ := Aside0.mk (Kd.R_below (sq_row HO428.out) hb); have n2_ := Aside0.mk (Kd.R_below (sq_row HO431.out) hb); have n3_ := Aside0.mk (Kd.R_lower ho0 (below_size (sq_below1 HB.out GE420.out))); have n4_ := Aside0.mk (blk_below (sq_blk BK420.out) hb); have n5_ := Aside0.mk (below_step (sq_below1 HB.out GE420.out) hb); clear HO425; clear HO428; clear HO431; clear BK420; clear HB; have HO425 := n0_; have HO428 := n1_; have HO431 := n2_; have HO434 := n3_; have BK420 := n4_; have HB := n5_; clear n0_ n1_ n2_ n3_ n4_ n5_; (try clear hb); (try clear ho0)) | ((with_reducible refine gate_callee (f := 14) rfl ?_); refine gl_ 37 Tryd.func14 #[.slice A4 l4.length c4] (h := ?_); (with_reducible refine (laws_toCellS.calls k _ _ l4 t435 _ ?side1 ?side2 A20.out).mono ?_); (case side1 => exact sq_c (Kd.C_below HR4.out HB.out)); (case side2 => exact HC4.out); rintro e w42 ⟨v436, rfl, ho0, hb⟩; refine ⟨_, rfl, ?_⟩; have n0_ := Aside0.mk (Kd.S_below (by (with_reducible repeat (first | apply Kd.S_alloc | apply Kd.S_drewN | apply Kd.S_drew)); exact HO425.out) hb); have n1_ := Aside0.mk (Kd.R_below (sq_row HO428.out) hb); have n2_ := Aside0.mk (Kd.R_below (sq_row HO431.out) hb); have n3_ := Aside0.mk (Kd.R_below (sq_row HO434.out) hb); have n4_ := Aside0.mk (Kd.R_lower ho0 (below_size (sq_below1 HB.out GE420.out))); have n5_ := Aside0.mk (blk_below (sq_blk BK420.out) hb); have n6_ := Aside0.mk (below_step (sq_below1 HB.out GE420.out) hb); clear HO425; clear HO428; clear HO431; clear HO434; clear BK420; clear HB; have HO425 := n0_; have HO428 := n1_; have HO431 := n2_; have HO434 := n3_; have HO437 := n4_; have BK420 := n5_; have HB := n6_; clear n0_ n1_ n2_ n3_ n4_ n5_ n6_; (try clear hb); (try clear ho0); obtain ⟨Ao43, co43, eo43⟩ := Kd.S_slice HO425.out; subst eo43; obtain ⟨Ao44, co44, eo44⟩ := Kd.R_slice HO428.out; subst eo44; obtain ⟨Ao45, co45, eo45⟩ := Kd.R_slice HO431.out; subst eo45; obtain ⟨Ao46, co46, eo46⟩ := Kd.R_slice HO434.out; subst eo46; obtain ⟨Ao47, co47, eo47⟩ := Kd.R_slice HO437.out; subst eo47) | ((with_reducible refine gate_callee (f := 12) rfl ?_); refine gl_ 38 Tryd.func12 #[.int .i64 a0, .int .i64 a1, .agg #[.slice Ao43 t423.length co43, .slice Ao44 t426.length co44, .slice Ao45 t429.length co45], .slice Ao46 t432.length co46, .slice Ao47 t435.length co47] (h := ?_); (with_reducible refine (spec_SegHas.calls k a0 a1 _ _ t423 _ _ t426 _ _ t429 _ _ t432 _ _ t435 t438 _ ?side1 ?side2 ?side3 ?side4 ?side5 ?side6 ?side7 ?side8 ?side9 ?side10 A21.out).mono ?_); (case side1 => exact sq_c ((Kd.S_reads' HO425.out).2.2)); (case side2 => exact (Kd.S_reads' HO425.out).2.1); (case side3 => exact sq_c ((Kd.R_reads' HO428.out).2.2)); (case side4 => exact (Kd.R_reads' HO428.out).2.1); (case side5 => exact sq_c ((Kd.R_reads' HO431.out).2.2)); (case side6 => exact (Kd.R_reads' HO431.out).2.1); (case side7 => exact sq_c ((Kd.R_reads' HO434.out).2.2)); (case side8 => exact (Kd.R_reads' HO434.out).2.1); (case side9 => exact sq_c ((Kd.R_reads' HO437.out).2.2)); (case side10 => exact (Kd.R_reads' HO437.out).2.1); rintro e w48 ⟨rfl, hb⟩; refine ⟨_, rfl, ?_⟩; replace HO425 := Aside0.mk (Kd.S_below (by (with_reducible repeat (first | apply Kd.S_alloc | apply Kd.S_drewN | apply Kd.S_drew)); exact HO425.out) hb); replace HO428 := Aside0.mk (Kd.R_below (sq_row HO428.out) hb); replace HO431 := Aside0.mk (Kd.R_below (sq_row HO431.out) hb); replace HO434 := Aside0.mk (Kd.R_below (sq_row HO434.out) hb); replace HO437 := Aside0.mk (Kd.R_below (sq_row HO437.out) hb); replace BK420 := bb_ BK420 hb; replace HB := hb1_ HB hb GE420; (try clear hb); have hcz49_0 := cl_ (v := .slice A2_0 l2_0.length c2_0) BK420 0; have hcz49_1 := cl_ (v := .slice A2_1 l2_1.length c2_1) BK420 1; have hcz49_2 := cl_ (v := .slice A2_2 l2_2.length c2_2) BK420 2; have hfz49_0 := blk_frozen BK420.out 0; have hfz49_1 := blk_frozen BK420.out 1; have hfz49_2 := blk_frozen BK420.out 2) | ((with_reducible refine gate_callee (f := 8) rfl ?_); refine gl_ 40 Tryd.func8 #[.agg #[.slice A2_0 l2_0.length c2_0, .slice A2_1 l2_1.length c2_1, .slice A2_2 l2_2.length c2_2]] (h := ?_); (with_reducible refine (laws_toSeg.calls k _ _ l2_0 _ _ l2_1 _ _ l2_2 t439 t442 t445 _ ?side1 ?side2 ?side3 ?side4 ?side5 ?side6 A22.out).mono ?_); (case side1 => exact sq_c (Kd.C_below HR2_0.out HB.out)); (case side2 => exact HC2_0.out); (case side3 => exact sq_c (Kd.C_below HR2_1.out HB.out)); (case side4 => exact HC2_1.out); (case side5 => exact sq_c (Kd.C_below HR2_2.out HB.out)); (case side6 => exact HC2_2.out); rintro e w50 ⟨v440, v443, v446, rfl, ho0, ho1, ho2, hb⟩; refine ⟨_, rfl, ?_⟩; have n0_ := Aside0.mk (Kd.S_elder' (by (with_reducible repeat (first | apply Kd.S_alloc | apply Kd.S_drewN | apply Kd.S_drew)); exact HO425.out) (Kd.S_base ho0) hb); have n1_ := Aside0.mk (Kd.R_elder' (sq_row HO428.out) (Kd.R_base ho1) hb); have n2_ := Aside0.mk (Kd.R_elder' (sq_row HO431.out) (Kd.R_base ho2) hb); have n3_ := Aside0.mk (Kd.R_below (sq_row HO434.out) hb); have n4_ := Aside0.mk (Kd.R_below (sq_row HO437.out) hb); have n5_ := Aside0.mk (Kd.S_lower (Kd.S_new' ho0 (Kd.S_lt (by (with_reducible repeat (first | apply Kd.S_alloc | apply Kd.S_drewN | apply Kd.S_drew)); exact HO425.out))) (below_size (sq_below1 HB.out GE420.out))); have n6_ := Aside0.mk (Kd.R_lower (Kd.R_new' ho1 (Kd.R_lt (sq_row HO428.out))) (below_size (sq_below1 HB.out GE420.out))); have n7_ := Aside0.mk (Kd.R_lower (Kd.R_new' ho2 (Kd.R_lt (sq_row HO431.out))) (below_size (sq_below1 HB.out GE420.out))); have n8_ := Aside0.mk (blk_below (sq_blk BK420.out) hb); have n9_ := Aside0.mk (below_step (sq_below1 HB.out GE420.out) hb); clear HO425; clear HO428; clear HO431; clear HO434; clear HO437; clear BK420; clear HB; have HO425 := n0_; have HO428 := n1_; have HO431 := n2_; have HO434 := n3_; have HO437 := n4_; have HO441 := n5_; have HO444 := n6_; have HO447 := n7_; have BK420 := n8_; have HB := n9_; clear n0_ n1_ n2_ n3_ n4_ n5_ n6_ n7_ n8_ n9_; (try clear hb); (try clear ho0); (try clear ho1); (try clear ho2)) | ((with_reducible refine gate_dst (N := 13) rfl ?_); refine box_y 13 #[.slice none 0 0, .slice none 0 0, .slice none 0 0] 32 (h := ?_); intro gb448 hg w51 hbox hb; have n0_ := Aside0.mk (Kd.S_below (by (with_reducible repeat (first | apply Kd.S_alloc | apply Kd.S_drewN | apply Kd.S_drew)); exact HO425.out) hb); have n1_ := Aside0.mk (Kd.R_below (sq_row HO428.out) hb); have n2_ := Aside0.mk (Kd.R_below (sq_row HO431.out) hb); have n3_ := Aside0.mk (Kd.R_below (sq_row HO434.out) hb); have n4_ := Aside0.mk (Kd.R_below (sq_row HO437.out) hb); have n5_ := Aside0.mk (Kd.S_below (by (with_reducible repeat (first | apply Kd.S_alloc | apply Kd.S_drewN | apply Kd.S_drew)); exact HO441.out) hb); have n6_ := Aside0.mk (Kd.R_below (sq_row HO444.out) hb); have n7_ := Aside0.mk (Kd.R_below (sq_row HO447.out) hb); have n8_ := Aside0.mk (blk_below (sq_blk BK420.out) hb); have n9_ := Aside0.mk (below_step (sq_below1 HB.out GE420.out) hb); have n10_ := Aside0.mk (hbox); have n11_ := ge_ hg (below_size (sq_below1 HB.out GE420.out)); have n12_ := ge_ hg (below_size (sq_below1 HB.out GE420.out)); have n13_ := nb_ hg BK420; have n14_ := Aside0.mk (Ne.symm n13_.out); clear HO425; clear HO428; clear HO431; clear HO434; clear HO437; clear HO441; clear HO444; clear HO447; clear BK420; clear HB; have HO425 := n0_; have HO428 := n1_; have HO431 := n2_; have HO434 := n3_; have HO437 := n4_; have HO441 := n5_; have HO444 := n6_; have HO447 := n7_; have BK420 := n8_; have HB := n9_; have BK448 := n10_; have GW448 := n11_; have GE448 := n12_; have NB420_448 := n13_; have NB448_420 := n14_; clear n0_ n1_ n2_ n3_ n4_ n5_ n6_ n7_ n8_ n9_ n10_ n11_ n12_ n13_ n14_; clear hb hbox hg; obtain ⟨Ao52, co52, eo52⟩ := Kd.S_slice HO441.out; subst eo52; have hnb53 := NB448_420.out; have hnc53 := NB420_448.out; have hcz54_0 := cl_ (v := .slice none 0 0) BK448 0; have hcz54_1 := cl_ (v := .slice none 0 0) BK448 1; have hcz54_2 := cl_ (v := .slice none 0 0) BK448 2; have hfz54_0 := blk_frozen BK448.out 0; have hfz54_1 := blk_frozen BK448.out 1; have hfz54_2 := blk_frozen BK448.out 2; obtain ⟨Ao55, co55, eo55⟩ := Kd.R_slice HO444.out; subst eo55; obtain ⟨Ao56, co56, eo56⟩ := Kd.R_slice HO447.out; subst eo56) | ((with_reducible refine gate_callee (f := 13) rfl ?_); refine gl_ 42 Tryd.func13 #[.slice A3 l3.length c3] (h := ?_); (with_reducible refine (laws_toIntS.calls k _ _ l3 t449 _ ?side1 ?side2 A23.out).mono ?_); (case side1 => exact Kd.C_below HR3.out (sq_below2 HB.out GE420.out GE448.out)); (case side2 => exact HC3.out); rintro e w57 ⟨v450, rfl, ho0, hb⟩; refine ⟨_, rfl, ?_⟩; have n0_ := Aside0.mk (Kd.S_below (by (with_reducible repeat (first | apply Kd.S_alloc | apply Kd.S_drewN | apply Kd.S_drew)); exact (Kd.S_mono (Kd.S_far (p := ⟨gb448, 2, none⟩) (Kd.S_far (p := ⟨gb448, 1, none⟩) (Kd.S_far (p := ⟨gb448, 0, none⟩) (Kd.S_types HO425.out BK448.out (by decide)) (fun _ hk => hk.2) (.slice Ao52 t439.length co52)) (fun _ hk => hk.2) (.slice Ao55 t442.length co55)) (fun _ hk => hk.2) (.slice Ao56 t445.length co56)) (fun _ h_ => h_.1))) hb); have n1_ := Aside0.mk (Kd.R_below (by (with_reducible repeat (first | apply Kd.R_alloc | apply Kd.R_drewN | apply Kd.R_drew)); exact (Kd.R_mono (Kd.R_far (p := ⟨gb448, 2, none⟩) (Kd.R_far (p := ⟨gb448, 1, none⟩) (Kd.R_far (p := ⟨gb448, 0, none⟩) (Kd.R_types HO428.out BK448.out (by decide)) (fun _ hk => hk.2) (.slice Ao52 t439.length co52)) (fun _ hk => hk.2) (.slice Ao55 t442.length co55)) (fun _ hk => hk.2) (.slice Ao56 t445.length co56)) (fun _ h_ => h_.1))) hb); have n2_ := Aside0.mk (Kd.R_below (by (with_reducible repeat (first | apply Kd.R_alloc | apply Kd.R_drewN | apply Kd.R_drew)); exact (Kd.R_mono (Kd.R_far (p := ⟨gb448, 2, none⟩) (Kd.R_far (p := ⟨gb448, 1, none⟩) (Kd.R_far (p := ⟨gb448, 0, none⟩) (Kd.R_types HO431.out BK448.out (by decide)) (fun _ hk => hk.2) (.slice Ao52 t439.length co52)) (fun _ hk => hk.2) (.slice Ao55 t442.length co55)) (fun _ hk => hk.2) (.slice Ao56 t445.length co56)) (fun _ h_ => h_.1))) hb); have n3_ := Aside0.mk (Kd.R_elder' (by (with_reducible repeat (first | apply Kd.R_alloc | apply Kd.R_drewN | apply Kd.R_drew)); exact (Kd.R_mono (Kd.R_far (p := ⟨gb448, 2, none⟩) (Kd.R_far (p := ⟨gb448, 1, none⟩) (Kd.R_far (p := ⟨gb448, 0, none⟩) (Kd.R_types HO434.out BK448.out (by decide)) (fun _ hk => hk.2) (.slice Ao52 t439.length co52)) (fun _ hk => hk.2) (.slice Ao55 t442.length co55)) (fun _ hk => hk.2) (.slice Ao56 t445.length co56)) (fun _ h_ => h_.1))) (Kd.R_base ho0) hb); have n4_ := Aside0.mk (Kd.R_below (by (with_reducible repeat (first | apply Kd.R_alloc | apply Kd.R_drewN | apply Kd.R_drew)); exact (Kd.R_mono (Kd.R_far (p := ⟨gb448, 2, none⟩) (Kd.R_far (p := ⟨gb448, 1, none⟩) (Kd.R_far (p := ⟨gb448, 0, none⟩) (Kd.R_types HO437.out BK448.out (by decide)) (fun _ hk => hk.2) (.slice Ao52 t439.length co52)) (fun _ hk => hk.2) (.slice Ao55 t442.length co55)) (fun _ hk => hk.2) (.slice Ao56 t445.length co56)) (fun _ h_ => h_.1))) hb); have n5_ := Aside0.mk (Kd.S_below (by (with_reducible repeat (first | apply Kd.S_alloc | apply Kd.S_drewN | apply Kd.S_drew)); exact (Kd.S_mono (Kd.S_far (p := ⟨gb448, 2, none⟩) (Kd.S_far (p := ⟨gb448, 1, none⟩) (Kd.S_far (p := ⟨gb448, 0, none⟩) (Kd.S_types HO441.out BK448.out (by decide)) (fun _ hk => hk.2) (.slice Ao52 t439.length co52)) (fun _ hk => hk.2) (.slice Ao55 t442.length co55)) (fun _ hk => hk.2) (.slice Ao56 t445.length co56)) (fun _ h_ => h_.1))) hb); have n6_ := Aside0.mk (Kd.R_below (by (with_reducible repeat (first | apply Kd.R_alloc | apply Kd.R_drewN | apply Kd.R_drew)); exact (Kd.R_mono (Kd.R_far (p := ⟨gb448, 2, none⟩) (Kd.R_far (p := ⟨gb448, 1, none⟩) (Kd.R_far (p := ⟨gb448, 0, none⟩) (Kd.R_types HO444.out BK448.out (by decide)) (fun _ hk => hk.2) (.slice Ao52 t439.length co52)) (fun _ hk => hk.2) (.slice Ao55 t442.length co55)) (fun _ hk => hk.2) (.slice Ao56 t445.length co56)) (fun _ h_ => h_.1))) hb); have n7_ := Aside0.mk (Kd.R_below (by (with_reducible repeat (first | apply Kd.R_alloc | apply Kd.R_drewN | apply Kd.R_drew)); exact (Kd.R_mono (Kd.R_far (p := ⟨gb448, 2, none⟩) (Kd.R_far (p := ⟨gb448, 1, none⟩) (Kd.R_far (p := ⟨gb448, 0, none⟩) (Kd.R_types HO447.out BK448.out (by decide)) (fun _ hk => hk.2) (.slice Ao52 t439.length co52)) (fun _ hk => hk.2) (.slice Ao55 t442.length co55)) (fun _ hk => hk.2) (.slice Ao56 t445.length co56)) (fun _ h_ => h_.1))) hb); have n8_ := Aside0.mk (Kd.R_lower (Kd.R_new' ho0 (Kd.R_lt (by (with_reducible repeat (first | apply Kd.R_alloc | apply Kd.R_drewN | apply Kd.R_drew)); exact (Kd.R_mono (Kd.R_far (p := ⟨gb448, 2, none⟩) (Kd.R_far (p := ⟨gb448, 1, none⟩) (Kd.R_far (p := ⟨gb448, 0, none⟩) (Kd.R_types HO434.out BK448.out (by decide)) (fun _ hk => hk.2) (.slice Ao52 t439.length co52)) (fun _ hk => hk.2) (.slice Ao55 t442.length co55)) (fun _ hk => hk.2) (.slice Ao56 t445.length co56)) (fun _ h_ => h_.1))))) (below_size (sq_below2 HB.out GE420.out GE448.out))); have n9_ := Aside0.mk (blk_below (g := gb420) (o := .cells #[.slice A2_0 l2_0.length c2_0, .slice A2_1 l2_1.length c2_1, .slice A2_2 l2_2.length c2_2] 26 (0, 0)) (bf_ BK420 NB420_448).out hb); have n10_ := Aside0.mk (blk_below (g := gb448) (o := .cells #[.slice Ao52 t439.length co52, .slice Ao55 t442.length co55, .slice Ao56 t445.length co56] 32 (0, 0)) (bp_ BK448) hb); have n11_ := Aside0.mk (below_step (sq_below2 HB.out GE420.out GE448.out) hb); clear HO425; clear HO428; clear HO431; clear HO434; clear HO437; clear HO441; clear HO444; clear HO447; clear BK420; clear BK448; clear HB; have HO425 := n0_; have HO428 := n1_; have HO431 := n2_; have HO434 := n3_; have HO437 := n4_; have HO441 := n5_; have HO444 := n6_; have HO447 := n7_; have HO451 := n8_; have BK420 := n9_; have BK448 := n10_; have HB := n11_; clear n0_ n1_ n2_ n3_ n4_ n5_ n6_ n7_ n8_ n9_ n10_ n11_; (try clear hb); (try clear ho0)) | ((with_reducible refine gate_callee (f := 14) rfl ?_); refine gl_ 44 Tryd.func14 #[.slice A4 l4.length c4] (h := ?_); (with_reducible refine (laws_toCellS.calls k _ _ l4 t452 _ ?side1 ?side2 A24.out).mono ?_); (case side1 => exact sq_c (Kd.C_below HR4.out HB.out)); (case side2 => exact HC4.out); rintro e w58 ⟨v453, rfl, ho0, hb⟩; refine ⟨_, rfl, ?_⟩; have n0_ := Aside0.mk (Kd.S_below (by (with_reducible repeat (first | apply Kd.S_alloc | apply Kd.S_drewN | apply Kd.S_drew)); exact HO425.out) hb); have n1_ := Aside0.mk (Kd.R_below (sq_row HO428.out) hb); have n2_ := Aside0.mk (Kd.R_below (sq_row HO431.out) hb); have n3_ := Aside0.mk (Kd.R_below (sq_row HO434.out) hb); have n4_ := Aside0.mk (Kd.R_elder' (sq_row HO437.out) (Kd.R_base ho0) hb); have n5_ := Aside0.mk (Kd.S_below (by (with_reducible repeat (first | apply Kd.S_alloc | apply Kd.S_drewN | apply Kd.S_drew)); exact HO441.out) hb); have n6_ := Aside0.mk (Kd.R_below (sq_row HO444.out) hb); have n7_ := Aside0.mk (Kd.R_below (sq_row HO447.out) hb); have n8_ := Aside0.mk (Kd.R_below (sq_row HO451.out) hb); have n9_ := Aside0.mk (Kd.R_lower (Kd.R_new' ho0 (Kd.R_lt (sq_row HO437.out))) (below_size (sq_below2 HB.out GE420.out GE448.out))); have n10_ := Aside0.mk (blk_below (sq_blk BK420.out) hb); have n11_ := Aside0.mk (blk_below (sq_blk BK448.out) hb); have n12_ := Aside0.mk (below_step (sq_below2 HB.out GE420.out GE448.out) hb); clear HO425; clear HO428; clear HO431; clear HO434; clear HO437; clear HO441; clear HO444; clear HO447; clear HO451; clear BK420; clear BK448; clear HB; have HO425 := n0_; have HO428 := n1_; have HO431 := n2_; have HO434 := n3_; have HO437 := n4_; have HO441 := n5_; have HO444 := n6_; have HO447 := n7_; have HO451 := n8_; have HO454 := n9_; have BK420 := n10_; have BK448 := n11_; have HB := n12_; clear n0_ n1_ n2_ n3_ n4_ n5_ n6_ n7_ n8_ n9_ n10_ n11_ n12_; (try clear hb); (try clear ho0); have hcz59_0 := cl_ (v := .slice Ao52 t439.length co52) BK448 0; have hcz59_1 := cl_ (v := .slice Ao55 t442.length co55) BK448 1; have hcz59_2 := cl_ (v := .slice Ao56 t445.length co56) BK448 2; have hfz59_0 := blk_frozen BK448.out 0; have hfz59_1 := blk_frozen BK448.out 1; have hfz59_2 := blk_frozen BK448.out 2; obtain ⟨Ao60, co60, eo60⟩ := Kd.R_slice HO451.out; subst eo60; obtain ⟨Ao61, co61, eo61⟩ := Kd.R_slice HO454.out; subst eo61) | ((with_reducible refine gate_callee (f := 15) rfl ?_); refine gl_ 50 Tryd.func15 #[.int .i64 a0, .int .i64 a1, .agg #[.slice Ao52 t439.length co52, .slice Ao55 t442.length co55, .slice Ao56 t445.length co56], .slice Ao60 t449.length co60, .slice Ao61 t452.length co61] (h := ?_); (with_reducible refine (impl_SegHas.calls k a0 a1 _ _ t439 _ _ t442 _ _ t445 _ _ t449 _ _ t452 t455 _ ?side11 ?side1 ?side2 ?side3 ?side4 ?side5 ?side6 ?side7 ?side8 ?side9 ?side10 A25.out).mono ?_); (case side1 => exact sq_c ((Kd.S_reads' HO441.out).2.2)); (case side2 => exact (Kd.S_reads' HO441.out).2.1); (case side3 => exact sq_c ((Kd.R_reads' HO444.out).2.2)); (case side4 => exact (Kd.R_reads' HO444.out).2.1); (case side5 => exact sq_c ((Kd.R_reads' HO447.out).2.2)); (case side6 => exact (Kd.R_reads' HO447.out).2.1); (case side7 => exact sq_c ((Kd.R_reads' HO451.out).2.2)); (case side8 => exact (Kd.R_reads' HO451.out).2.1); (case side9 => exact sq_c ((Kd.R_reads' HO454.out).2.2)); (case side10 => exact (Kd.R_reads' HO454.out).2.1); (case side11 => exact GL0.below HG0.out (sq_below2 HB.out GE420.out GE448.out)); rintro e w62 ⟨rfl, hb⟩; refine ⟨_, rfl, ?_⟩; replace HO425 := Aside0.mk (Kd.S_below (by (with_reducible repeat (first | apply Kd.S_alloc | apply Kd.S_drewN | apply Kd.S_drew)); exact HO425.out) hb); replace HO428 := Aside0.mk (Kd.R_below (sq_row HO428.out) hb); replace HO431 := Aside0.mk (Kd.R_below (sq_row HO431.out) hb); replace HO434 := Aside0.mk (Kd.R_below (sq_row HO434.out) hb); replace HO437 := Aside0.mk (Kd.R_below (sq_row HO437.out) hb); replace HO441 := Aside0.mk (Kd.S_below (by (with_reducible repeat (first | apply Kd.S_alloc | apply Kd.S_drewN | apply Kd.S_drew)); exact HO441.out) hb); replace HO444 := Aside0.mk (Kd.R_below (sq_row HO444.out) hb); replace HO447 := Aside0.mk (Kd.R_below (sq_row HO447.out) hb); replace HO451 := Aside0.mk (Kd.R_below (sq_row HO451.out) hb); replace HO454 := Aside0.mk (Kd.R_below (sq_row HO454.out) hb); replace BK420 := bb_ BK420 hb; replace BK448 := bb_ BK448 hb; replace HB := hb2_ HB hb GE420 GE448; (try clear hb)))
        replace HO425 := Aside0.mk (Kd.S_drew HO425.out); replace HO428 := Aside0.mk (Kd.R_drew HO428.out); replace HO431 := Aside0.mk (Kd.R_drew HO431.out); replace HO434 := Aside0.mk (Kd.R_drew HO434.out); replace HO437 := Aside0.mk (Kd.R_drew HO437.out); replace HO441 := Aside0.mk (Kd.S_drew HO441.out); replace HO444 := Aside0.mk (Kd.R_drew HO444.out); replace HO447 := Aside0.mk (Kd.R_drew HO447.out); replace HO451 := Aside0.mk (Kd.R_drew HO451.out); replace HO454 := Aside0.mk (Kd.R_drew HO454.out); replace BK420 := bd_ BK420; replace BK448 := bd_ BK448; replace HB := hd_ HB; refine start_ (n := 5) (S := fun w' => w'.cell? ⟨gb448, 0, none⟩ = some (.slice Ao52 t439.length co52) ∧ w'.cell? ⟨gb448, 1, none⟩ = some (.slice Ao55 t442.length co55) ∧ w'.cell? ⟨gb448, 2, none⟩ = some (.slice Ao56 t445.length co56) ∧ w'.cell? ⟨gb420, 0, none⟩ = some (.slice A2_0 l2_0.length c2_0) ∧ w'.cell? ⟨gb420, 1, none⟩ = some (.slice A2_1 l2_1.length c2_1) ∧ w'.cell? ⟨gb420, 2, none⟩ = some (.slice A2_2 l2_2.length c2_2)) (ds := []) #[false, false, false, false, false] (by kernel_rfl) rfl rfl ⟨cl_ BK448 0, cl_ BK448 1, cl_ BK448 2, cl_ BK420 0, cl_ BK420 1, cl_ BK420 2⟩ (fun hHeld => ?_); generalize w62.drew = w63 at HO425 HO428 HO431 HO434 HO437 HO441 HO444 HO447 HO451 HO454 BK420 BK448 HB hHeld ⊢; refine take_ (i := 0) (N := some 54) (v := ?_) (a' := ?_) #[true, false, false, false, false] rfl rfl (by kernel_rfl) (fun _ _ _ h => h) (Or.inl ⟨by rfl, ?_⟩) hHeld ?_ ?_; rotate_left
        ·
         rintro w' ⟨s0, s1, s2, s3, s4, s5⟩; go_simp; with_reducible rfl
        rotate_left
        ·
         simp only [Act.put, List.setIfInBounds_toArray, List.set_cons_zero, List.set_cons_succ, i64_w, i32_w]; rfl
        refine take_ (i := 1) (N := some 55) (v := ?_) (a' := ?_) #[true, true, false, false, false] rfl rfl (by kernel_rfl) (fun _ _ _ h => h) (Or.inl ⟨by rfl, ?_⟩) hHeld ?_ ?_; rotate_left
        ·
         rintro w' ⟨s0, s1, s2, s3, s4, s5⟩; go_simp; with_reducible rfl
        rotate_left
        ·
         simp only [Act.put, List.setIfInBounds_toArray, List.set_cons_zero, List.set_cons_succ, i64_w, i32_w]; rfl
        refine one_ (i := 2) (N := some 56) #[true, true, true, false, false] rfl rfl (by kernel_rfl) (by decide) (fun K hK => ?_); refine gs_ Tryd.func8 #[.agg #[.slice A2_0 l2_0.length c2_0, .slice A2_1 l2_1.length c2_1, .slice A2_2 l2_2.length c2_2]] (h := ?_); with_reducible refine (laws_toSeg.calls k _ _ l2_0 _ _ l2_1 _ _ l2_2 t456 t459 t462 _ ?side1 ?side2 ?side3 ?side4 ?side5 ?side6 A27.out).mono ?_
        (case side1 => exact sq_c (Kd.C_below HR2_0.out HB.out))
        (case side2 => exact HC2_0.out)
        (case side3 => exact sq_c (Kd.C_below HR2_1.out HB.out))
        (case side4 => exact HC2_1.out)
        (case side5 => exact sq_c (Kd.C_below HR2_2.out HB.out))
        (case side6 => exact HC2_2.out)
        rintro e w64 ⟨v457, v460, v463, rfl, ho0, ho1, ho2, hb⟩; refine ⟨_, rfl, ?_⟩; have n0_ := Aside0.mk (Kd.S_elder' (by (with_reducible repeat (first | apply Kd.S_alloc | apply Kd.S_drewN | apply Kd.S_drew)); exact HO425.out) (Kd.S_base ho0) hb); have n1_ := Aside0.mk (Kd.R_elder' (sq_row HO428.out) (Kd.R_base ho1) hb); have n2_ := Aside0.mk (Kd.R_elder' (sq_row HO431.out) (Kd.R_base ho2) hb); have n3_ := Aside0.mk (Kd.R_below (sq_row HO434.out) hb); have n4_ := Aside0.mk (Kd.R_below (sq_row HO437.out) hb); have n5_ := Aside0.mk (Kd.S_elder' (by (with_reducible repeat (first | apply Kd.S_alloc | apply Kd.S_drewN | apply Kd.S_drew)); exact HO441.out) (Kd.S_base ho0) hb); have n6_ := Aside0.mk (Kd.R_elder' (sq_row HO444.out) (Kd.R_base ho1) hb); have n7_ := Aside0.mk (Kd.R_elder' (sq_row HO447.out) (Kd.R_base ho2) hb); have n8_ := Aside0.mk (Kd.R_below (sq_row HO451.out) hb); have n9_ := Aside0.mk (Kd.R_below (sq_row HO454.out) hb); have n10_ := Aside0.mk (Kd.S_lower (Kd.S_new' (Kd.S_new' ho0 (Kd.S_lt (by (with_reducible repeat (first | apply Kd.S_alloc | apply Kd.S_drewN | apply Kd.S_drew)); exact HO425.out))) (Kd.S_lt (by (with_reducible repeat (first | apply Kd.S_alloc | apply Kd.S_drewN | apply Kd.S_drew)); exact HO441.out))) (below_size (sq_below2 HB.out GE420.out GE448.out))); have n11_ := Aside0.mk (Kd.R_lower (Kd.R_new' (Kd.R_new' ho1 (Kd.R_lt (sq_row HO428.out))) (Kd.R_lt (sq_row HO444.out))) (below_size (sq_below2 HB.out GE420.out GE448.out))); have n12_ := Aside0.mk (Kd.R_lower (Kd.R_new' (Kd.R_new' ho2 (Kd.R_lt (sq_row HO431.out))) (Kd.R_lt (sq_row HO447.out))) (below_size (sq_below2 HB.out GE420.out GE448.out))); have n13_ := Aside0.mk (blk_below (sq_blk BK420.out) hb); have n14_ := Aside0.mk (blk_below (sq_blk BK448.out) hb); have n15_ := Aside0.mk (below_step (sq_below2 HB.out GE420.out GE448.out) hb); clear HO425 HO428 HO431 HO434 HO437 HO441 HO444 HO447 HO451 HO454 BK420 BK448 HB; have HO425 := n0_; have HO428 := n1_; have HO431 := n2_; have HO434 := n3_; have HO437 := n4_; have HO441 := n5_; have HO444 := n6_; have HO447 := n7_; have HO451 := n8_; have HO454 := n9_; have HO458 := n10_; have HO461 := n11_; have HO464 := n12_; have BK420 := n13_; have BK448 := n14_; have HB := n15_; clear n0_ n1_ n2_ n3_ n4_ n5_ n6_ n7_ n8_ n9_ n10_ n11_ n12_ n13_ n14_ n15_
        (try clear hb)
        (try clear hb2)
        (try clear hk)
        (try clear hi)
        (try clear ho0)
        (try clear ho1)
        (try clear ho2)
        obtain ⟨Ao65, co65, eo65⟩ := Kd.S_slice HO458.out
        (first | subst eo65 | (injection eo65 with f1_ f2_ f3_; have f4_ := f1_.symm; have f5_ := f3_.symm; clear f1_ f2_ f3_; subst f4_; subst f5_))
        obtain ⟨Ao66, co66, eo66⟩ := Kd.R_slice HO461.out
        (first | subst eo66 | (injection eo66 with f1_ f2_ f3_; have f4_ := f1_.symm; have f5_ := f3_.symm; clear f1_ f2_ f3_; subst f4_; subst f5_))
        obtain ⟨Ao67, co67, eo67⟩ := Kd.R_slice HO464.out
        (first | subst eo67 | (injection eo67 with f1_ f2_ f3_; have f4_ := f1_.symm; have f5_ := f3_.symm; clear f1_ f2_ f3_; subst f4_; subst f5_))
        refine hK.out _ _ ⟨cl_ BK448 0, cl_ BK448 1, cl_ BK448 2, cl_ BK420 0, cl_ BK420 1, cl_ BK420 2⟩ (fun hHeld => ?_); clear hK K; refine norm_y 56 (h := ?_)
        refine one_ (i := 3) (N := some 57) #[true, true, true, true, false] rfl rfl (by kernel_rfl) (by decide) (fun K hK => ?_); refine gs_ Tryd.func10 #[.agg #[.slice Ao52 t439.length co52, .slice Ao55 t442.length co55, .slice Ao56 t445.length co56], .agg #[.slice Ao65 t456.length co65, .slice Ao66 t459.length co66, .slice Ao67 t462.length co67]] (h := ?_); with_reducible refine (laws_eqSeg.calls k _ _ t439 _ _ t442 _ _ t445 _ _ t456 _ _ t459 _ _ t462 true _ ?side1 ?side2 ?side3 ?side4 ?side5 ?side6 ?side7 ?side8 ?side9 ?side10 ?side11 ?side12 A28.out).mono ?_
        (case side1 => exact sq_c ((Kd.S_reads' HO441.out).2.2))
        (case side2 => exact (Kd.S_reads' HO441.out).2.1)
        (case side3 => exact sq_c ((Kd.R_reads' HO444.out).2.2))
        (case side4 => exact (Kd.R_reads' HO444.out).2.1)
        (case side5 => exact sq_c ((Kd.R_reads' HO447.out).2.2))
        (case side6 => exact (Kd.R_reads' HO447.out).2.1)
        (case side7 => exact sq_c ((Kd.S_reads' HO458.out).2.2))
        (case side8 => exact (Kd.S_reads' HO458.out).2.1)
        (case side9 => exact sq_c ((Kd.R_reads' HO461.out).2.2))
        (case side10 => exact (Kd.R_reads' HO461.out).2.1)
        (case side11 => exact sq_c ((Kd.R_reads' HO464.out).2.2))
        (case side12 => exact (Kd.R_reads' HO464.out).2.1)
        rintro e w68 ⟨rfl, hb⟩; refine ⟨_, rfl, ?_⟩; replace HO425 := Aside0.mk (Kd.S_below (by (with_reducible repeat (first | apply Kd.S_alloc | apply Kd.S_drewN | apply Kd.S_drew)); exact HO425.out) hb); replace HO428 := Aside0.mk (Kd.R_below (sq_row HO428.out) hb); replace HO431 := Aside0.mk (Kd.R_below (sq_row HO431.out) hb); replace HO434 := Aside0.mk (Kd.R_below (sq_row HO434.out) hb); replace HO437 := Aside0.mk (Kd.R_below (sq_row HO437.out) hb); replace HO441 := Aside0.mk (Kd.S_below (by (with_reducible repeat (first | apply Kd.S_alloc | apply Kd.S_drewN | apply Kd.S_drew)); exact HO441.out) hb); replace HO444 := Aside0.mk (Kd.R_below (sq_row HO444.out) hb); replace HO447 := Aside0.mk (Kd.R_below (sq_row HO447.out) hb); replace HO451 := Aside0.mk (Kd.R_below (sq_row HO451.out) hb); replace HO454 := Aside0.mk (Kd.R_below (sq_row HO454.out) hb); replace HO458 := Aside0.mk (Kd.S_below (by (with_reducible repeat (first | apply Kd.S_alloc | apply Kd.S_drewN | apply Kd.S_drew)); exact HO458.out) hb); replace HO461 := Aside0.mk (Kd.R_below (sq_row HO461.out) hb); replace HO464 := Aside0.mk (Kd.R_below (sq_row HO464.out) hb); replace BK420 := bb_ BK420 hb; replace BK448 := bb_ BK448 hb; replace HB := hb2_ HB hb GE420 GE448
        (try clear hb)
        (try clear hb2)
        (try clear hk)
        (try clear hi)
        refine hK.out _ _ ⟨cl_ BK448 0, cl_ BK448 1, cl_ BK448 2, cl_ BK420 0, cl_ BK420 1, cl_ BK420 2⟩ (fun hHeld => ?_); clear hK K; refine norm_y 57 (h := ?_)
        refine pure_ (i := 4) (N := some 58) (v := ?_) (a' := ?_) #[true, true, true, true, true] rfl rfl (by kernel_rfl) (fun _ _ _ h => h) (Or.inl ⟨by rfl, ?_⟩) ?_ ?_; rotate_left
        ·
         intro w'; go_simp; with_reducible rfl
        rotate_left
        ·
         simp only [Act.put, List.setIfInBounds_toArray, List.set_cons_zero, List.set_cons_succ, i64_w, i32_w]; rfl
        refine done_ (by kernel_rfl) ?_
        try go_wp2_with (first | ((with_reducible refine gate_callee (f := 13) rfl ?_); refine gl_ 61 Tryd.func13 #[.slice A3 l3.length c3] (h := ?_); (with_reducible refine (laws_toIntS.calls k _ _ l3 t466 _ ?side1 ?side2 A30.out).mono ?_); (case side1 => exact sq_c (Kd.C_below HR3.out HB.out)); (case side2 => exact HC3.out); rintro e w69 ⟨v467, rfl, ho0, hb⟩; refine ⟨_, rfl, ?_⟩; have n0_ := Aside0.mk (Kd.S_below (by (with_reducible repeat (first | apply Kd.S_alloc | apply Kd.S_drewN | apply Kd.S_drew)); exact HO425.out) hb); have n1_ := Aside0.mk (Kd.R_below (sq_row HO428.out) hb); have n2_ := Aside0.mk (Kd.R_below (sq_row HO431.out) hb); have n3_ := Aside0.mk (Kd.R_elder' (sq_row HO434.out) (Kd.R_base ho0) hb); have n4_ := Aside0.mk (Kd.R_below (sq_row HO437.out) hb); have n5_ := Aside0.mk (Kd.S_below (by (with_reducible repeat (first | apply Kd.S_alloc | apply Kd.S_drewN | apply Kd.S_drew)); exact HO441.out) hb); have n6_ := Aside0.mk (Kd.R_below (sq_row HO444.out) hb); have n7_ := Aside0.mk (Kd.R_below (sq_row HO447.out) hb); have n8_ := Aside0.mk (Kd.R_elder' (sq_row HO451.out) (Kd.R_base ho0) hb); have n9_ := Aside0.mk (Kd.R_below (sq_row HO454.out) hb); have n10_ := Aside0.mk (Kd.S_below (by (with_reducible repeat (first | apply Kd.S_alloc | apply Kd.S_drewN | apply Kd.S_drew)); exact HO458.out) hb); have n11_ := Aside0.mk (Kd.R_below (sq_row HO461.out) hb); have n12_ := Aside0.mk (Kd.R_below (sq_row HO464.out) hb); have n13_ := Aside0.mk (Kd.R_lower (Kd.R_new' (Kd.R_new' ho0 (Kd.R_lt (sq_row HO434.out))) (Kd.R_lt (sq_row HO451.out))) (below_size (sq_below HB.out))); have n14_ := Aside0.mk (below_step (sq_below HB.out) hb); clear HO425; clear HO428; clear HO431; clear HO434; clear HO437; clear HO441; clear HO444; clear HO447; clear HO451; clear HO454; clear HO458; clear HO461; clear HO464; clear HB; have HO425 := n0_; have HO428 := n1_; have HO431 := n2_; have HO434 := n3_; have HO437 := n4_; have HO441 := n5_; have HO444 := n6_; have HO447 := n7_; have HO451 := n8_; have HO454 := n9_; have HO458 := n10_; have HO461 := n11_; have HO464 := n12_; have HO468 := n13_; have HB := n14_; clear n0_ n1_ n2_ n3_ n4_ n5_ n6_ n7_ n8_ n9_ n10_ n11_ n12_ n13_ n14_; (try clear hb); (try clear ho0); obtain ⟨Ao70, co70, eo70⟩ := Kd.R_slice HO468.out; subst eo70) | ((with_reducible refine gate_callee (f := 16) rfl ?_); refine gl_ 62 Tryd.func16 #[.slice Ao60 t449.length co60, .slice Ao70 t466.length co70] (h := ?_); (with_reducible refine (laws_eqIntS.calls k _ _ t449 _ _ t466 true _ ?side1 ?side2 ?side3 ?side4 A31.out).mono ?_); (case side1 => exact sq_c ((Kd.R_reads' HO451.out).2.2)); (case side2 => exact (Kd.R_reads' HO451.out).2.1); (case side3 => exact sq_c ((Kd.R_reads' HO468.out).2.2)); (case side4 => exact (Kd.R_reads' HO468.out).2.1); rintro e w' ⟨rfl, ⟨nd, rfl⟩⟩; refine ⟨_, rfl, ?_⟩) | ((with_reducible refine gate_callee (f := 14) rfl ?_); refine gl_ 66 Tryd.func14 #[.slice A4 l4.length c4] (h := ?_); (with_reducible refine (laws_toCellS.calls k _ _ l4 t470 _ ?side1 ?side2 A33.out).mono ?_); (case side1 => exact sq_c (Kd.C_below HR4.out (sq_below HB.out))); (case side2 => exact HC4.out); rintro e w71 ⟨v471, rfl, ho0, hb⟩; refine ⟨_, rfl, ?_⟩; have n0_ := Aside0.mk (Kd.S_below (by (with_reducible repeat (first | apply Kd.S_alloc | apply Kd.S_drewN | apply Kd.S_drew)); exact HO425.out) hb); have n1_ := Aside0.mk (Kd.R_below (sq_row HO428.out) hb); have n2_ := Aside0.mk (Kd.R_below (sq_row HO431.out) hb); have n3_ := Aside0.mk (Kd.R_below (sq_row HO434.out) hb); have n4_ := Aside0.mk (Kd.R_elder' (sq_row HO437.out) (Kd.R_base ho0) hb); have n5_ := Aside0.mk (Kd.S_below (by (with_reducible repeat (first | apply Kd.S_alloc | apply Kd.S_drewN | apply Kd.S_drew)); exact HO441.out) hb); have n6_ := Aside0.mk (Kd.R_below (sq_row HO444.out) hb); have n7_ := Aside0.mk (Kd.R_below (sq_row HO447.out) hb); have n8_ := Aside0.mk (Kd.R_below (sq_row HO451.out) hb); have n9_ := Aside0.mk (Kd.R_elder' (sq_row HO454.out) (Kd.R_base ho0) hb); have n10_ := Aside0.mk (Kd.S_below (by (with_reducible repeat (first | apply Kd.S_alloc | apply Kd.S_drewN | apply Kd.S_drew)); exact HO458.out) hb); have n11_ := Aside0.mk (Kd.R_below (sq_row HO461.out) hb); have n12_ := Aside0.mk (Kd.R_below (sq_row HO464.out) hb); have n13_ := Aside0.mk (Kd.R_below (sq_row HO468.out) hb); have n14_ := Aside0.mk (Kd.R_lower (Kd.R_new' (Kd.R_new' ho0 (Kd.R_lt (sq_row HO437.out))) (Kd.R_lt (sq_row HO454.out))) (below_size (sq_below HB.out))); have n15_ := Aside0.mk (below_step (sq_below HB.out) hb); clear HO425; clear HO428; clear HO431; clear HO434; clear HO437; clear HO441; clear HO444; clear HO447; clear HO451; clear HO454; clear HO458; clear HO461; clear HO464; clear HO468; clear HB; have HO425 := n0_; have HO428 := n1_; have HO431 := n2_; have HO434 := n3_; have HO437 := n4_; have HO441 := n5_; have HO444 := n6_; have HO447 := n7_; have HO451 := n8_; have HO454 := n9_; have HO458 := n10_; have HO461 := n11_; have HO464 := n12_; have HO468 := n13_; have HO472 := n14_; have HB := n15_; clear n0_ n1_ n2_ n3_ n4_ n5_ n6_ n7_ n8_ n9_ n10_ n11_ n12_ n13_ n14_ n15_; (try clear hb); (try clear ho0); obtain ⟨Ao72, co72, eo72⟩ := Kd.R_slice HO472.out; subst eo72) | ((with_reducible refine gate_callee (f := 17) rfl ?_); refine gl_ 67 Tryd.func17 #[.slice Ao61 t452.length co61, .slice Ao72 t470.length co72] (h := ?_); (with_reducible refine (laws_eqCellS.calls k _ _ t452 _ _ t470 true _ ?side1 ?side2 ?side3 ?side4 A34.out).mono ?_); (case side1 => exact sq_c ((Kd.R_reads' HO454.out).2.2)); (case side2 => exact (Kd.R_reads' HO454.out).2.1); (case side3 => exact sq_c ((Kd.R_reads' HO472.out).2.2)); (case side4 => exact (Kd.R_reads' HO472.out).2.1); rintro e w73 ⟨rfl, hb⟩; refine ⟨_, rfl, ?_⟩; replace HO425 := Aside0.mk (Kd.S_below (by (with_reducible repeat (first | apply Kd.S_alloc | apply Kd.S_drewN | apply Kd.S_drew)); exact HO425.out) hb); replace HO428 := Aside0.mk (Kd.R_below (sq_row HO428.out) hb); replace HO431 := Aside0.mk (Kd.R_below (sq_row HO431.out) hb); replace HO434 := Aside0.mk (Kd.R_below (sq_row HO434.out) hb); replace HO437 := Aside0.mk (Kd.R_below (sq_row HO437.out) hb); replace HO441 := Aside0.mk (Kd.S_below (by (with_reducible repeat (first | apply Kd.S_alloc | apply Kd.S_drewN | apply Kd.S_drew)); exact HO441.out) hb); replace HO444 := Aside0.mk (Kd.R_below (sq_row HO444.out) hb); replace HO447 := Aside0.mk (Kd.R_below (sq_row HO447.out) hb); replace HO451 := Aside0.mk (Kd.R_below (sq_row HO451.out) hb); replace HO454 := Aside0.mk (Kd.R_below (sq_row HO454.out) hb); replace HO458 := Aside0.mk (Kd.S_below (by (with_reducible repeat (first | apply Kd.S_alloc | apply Kd.S_drewN | apply Kd.S_drew)); exact HO458.out) hb); replace HO461 := Aside0.mk (Kd.R_below (sq_row HO461.out) hb); replace HO464 := Aside0.mk (Kd.R_below (sq_row HO464.out) hb); replace HO468 := Aside0.mk (Kd.R_below (sq_row HO468.out) hb); replace HO472 := Aside0.mk (Kd.R_below (sq_row HO472.out) hb); replace HB := hb_ HB hb; (try clear hb)))
        go_ret
        exact ⟨by first | rfl | (simp [errW_none, errW_some] <;> rfl) | (simp [*, errW_none, errW_some] <;> rfl), sq_below HB.out⟩
       ·
        replace c35 := Bool.eq_false_iff.mpr c35; subst c35; exact (no_ H hr_).elim
      ·
       replace c32 := Bool.eq_false_iff.mpr c32; subst c32; exact (no_ H hr_).elim
     ·
      replace c29 := Bool.eq_false_iff.mpr c29; subst c29; exact (no_ H hr_).elim

end Go.Proofs.YtfeloencepgdlaaDoor.Q
