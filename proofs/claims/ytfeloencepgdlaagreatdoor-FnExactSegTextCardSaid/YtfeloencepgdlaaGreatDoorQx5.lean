/- Functions of the translation as Lean functions, each with a proof that a call answers so; out of the seat, by this claim's own program prt.py. -/
import Derived.Test.YtfeloencepgdlaaGreatDoorWRepsOne
import Derived.Test.YtfeloencepgdlaaGreatDoorQx0
import Derived.Test.YtfeloencepgdlaaGreatDoorQx1
import Derived.Test.YtfeloencepgdlaaGreatDoorQStep
namespace Go.Proofs.YtfeloencepgdlaaGreatDoor.Q
open Go.RowKit Go.Proofs.YtfeloencepgdlaaGreatDoorW.PrintWords Go.Proofs.YtfeloencepgdlaaGreatDoorW.PrintLast Go.Proofs.YtfeloencepgdlaaGreatDoorW.PrintMore
attribute [local go_sem] max2_int min2_int max_two min_two max_three min_three max_four min_four   -- for this text's walks alone
set_option linter.unusedVariables false
set_option linter.unusedSimpArgs false

attribute [local go_sem high] eqA59
/-! ### spec_l10Find: function 58 -/
def spec_l10Find.l0 : Nat → List (S59) → Int → Int → Int → Option (Int)
 | 0, _, _, _, _ => none
 | k + 1, x0, x5, x117000, x117001 => if x5 < (x0.length : Int) then (if 0 ≤ x5 then (if (((rd_T59 x0 x5).f0) == x117000 && (((rd_T59 x0 x5).f1) == x117001)) = true then (some x5) else (spec_l10Find.l0 k x0 (wrap64 (x5 + 1)) x117000 x117001)) else (none)) else (some (-1))
def spec_l10Find.f (k : Nat) (l0 : List (S59)) (a1_0 : Int) (a1_1 : Int) : Option (Int) := spec_l10Find.l0 k l0 0 a1_0 a1_1
theorem spec_l10Find.mono_l : ∀ k, (∀ y0 y1 y2 y3, LeO (spec_l10Find.l0 k y0 y1 y2 y3) (spec_l10Find.l0 (k + 1) y0 y1 y2 y3))
 | 0 => fun _ _ _ _ r h => by simp [spec_l10Find.l0] at h
 | k + 1 => by
  have ih0 := spec_l10Find.mono_l k
  ·
   intro y0 y1 y2 y3; unfold spec_l10Find.l0
   repeat' first
   | (with_reducible exact ih0 _ _ _ _)
   | (with_reducible exact LeO.refl _)
   | (with_reducible exact LeO.none _)
   | (with_reducible refine LeO.ite ?_ ?_)
   | (with_reducible refine LeO.bind ?_ (fun _ => ?_))
   | exact ih0 _ _ _ _
   | exact LeO.none _
   | refine LeO.ite ?_ ?_
   | refine LeO.bind ?_ (fun _ => ?_)
theorem spec_l10Find.mono : ∀ a0 a1 a2 k, LeO (spec_l10Find.f k a0 a1 a2) (spec_l10Find.f (k + 1) a0 a1 a2) := by
 intro a0 a1 a2 k; have ih0 := spec_l10Find.mono_l k; unfold spec_l10Find.f
 repeat' first
   | (with_reducible exact ih0 _ _ _ _)
   | (with_reducible exact LeO.refl _)
   | (with_reducible exact LeO.none _)
   | (with_reducible refine LeO.ite ?_ ?_)
   | (with_reducible refine LeO.bind ?_ (fun _ => ?_))
   | exact ih0 _ _ _ _
   | exact LeO.none _
   | refine LeO.ite ?_ ?_
   | refine LeO.bind ?_ (fun _ => ?_)
set_option maxHeartbeats 8000000 in
set_option maxRecDepth 100000 in
theorem spec_l10Find.calls (k : Nat) (A0 : Option Addr) (c0 : Nat) (l0 : List (S59)) (a1_0 : Int) (a1_1 : Int) (r : Int) (w : World) (hr0 : Kd.C k59 w A0 l0.length l0) (hc0 : l0.length ≤ c0) (h : spec_l10Find.f k l0 a1_0 a1_1 = some r) :
  Calls Tryz.prog 58 #[.slice A0 l0.length c0, .agg #[.int .i64 a1_0, .int .i64 a1_1]] w fun e w' => e = .returned (.int .i64 r) ∧ Below w.heap.size w w' := by
 have hu59 := Tryz.underlying59; have HR0 := Aside0.mk hr0; have HC0 := Aside0.mk hc0; clear hr0 hc0; have HB := Aside0.mk (Below.refl w.heap.size w); have H : (spec_l10Find.l0 k l0 0 a1_0 a1_1) = some r := h; clear h; have H' := Aside0.mk H; clear H
 go_enter Tryz.func58, Tryz.ntmps58
 go_wp2_with (first | ((with_reducible refine gate_dst (N := 3) rfl ?_); refine box_y 3 #[.int .i64 a1_0, .int .i64 a1_1] 59 (h := ?_); intro gb116 hg w3 hbox hb; have n0_ := Aside0.mk (below_step (sq_below HB.out) hb); have n1_ := Aside0.mk (hbox); have n2_ := ge_ hg (below_size (sq_below HB.out)); have n3_ := ge_ hg (below_size (sq_below HB.out)); clear HB; have HB := n0_; have BK116 := n1_; have GW116 := n2_; have GE116 := n3_; clear n0_ n1_ n2_ n3_; clear hb hbox hg))
 repeat (go_quiet (first | ((with_reducible refine gate_dst (N := 3) rfl ?_); refine box_y 3 #[.int .i64 a1_0, .int .i64 a1_1] 59 (h := ?_); intro gb116 hg w3 hbox hb; have n0_ := Aside0.mk (below_step (sq_below HB.out) hb); have n1_ := Aside0.mk (hbox); have n2_ := ge_ hg (below_size (sq_below HB.out)); have n3_ := ge_ hg (below_size (sq_below HB.out)); clear HB; have HB := n0_; have BK116 := n1_; have GW116 := n2_; have GE116 := n3_; clear n0_ n1_ n2_ n3_; clear hb hbox hg)); try go_wp2_with (first | ((with_reducible refine gate_dst (N := 3) rfl ?_); refine box_y 3 #[.int .i64 a1_0, .int .i64 a1_1] 59 (h := ?_); intro gb116 hg w3 hbox hb; have n0_ := Aside0.mk (below_step (sq_below HB.out) hb); have n1_ := Aside0.mk (hbox); have n2_ := ge_ hg (below_size (sq_below HB.out)); have n3_ := ge_ hg (below_size (sq_below HB.out)); clear HB; have HB := n0_; have BK116 := n1_; have GW116 := n2_; have GE116 := n3_; clear n0_ n1_ n2_ n3_; clear hb hbox hg)))
 go_loopg [5] k (fun kq v5 w' => ∃ (x5_1 : Int), v5 = .int .i64 x5_1 ∧ Aside0 (spec_l10Find.l0 kq l0 x5_1 a1_0 a1_1 = some r) ∧ Aside0 (kq ≤ k) ∧ Aside0 (w'.heap[gb116]? = some (.cells #[.int .i64 a1_0, .int .i64 a1_1] 59 (0, 0))) ∧ Aside0 (Below w.heap.size w w'))
 case atStart => exact ⟨(0), (by first | rfl | (simp; done) | (simp [*]; done)), H', ⟨Nat.le_refl _⟩, bk_ BK116, ⟨sq_below1 HB.out GE116.out⟩⟩
 case round =>
  clear H'
  try clear p2
  obtain ⟨x5_1, rfl, HA, HK1, BK116, HB⟩ := hrel; cases gk with
  | zero => exact absurd HA.out (by simp [spec_l10Find.l0])
  | succ k1 =>
   have H := HA.out; clear HA; simp only [spec_l10Find.l0] at H
   by_cases c4 : x5_1 < (l0.length : Int)
   ·
    rw [if_pos c4] at H; have c4b0 : decide (x5_1 < (l0.length : Int)) = true := decide_eq_true c4; clear c4
    by_cases c5 : 0 ≤ x5_1
    ·
     rw [if_pos c5] at H; have c5b0 : decide (0 ≤ x5_1) = true := decide_eq_true c5; clear c5
     by_cases c6 : (((rd_T59 l0 x5_1).f0) == a1_0 && (((rd_T59 l0 x5_1).f1) == a1_1)) = true
     ·
      rw [if_pos c6] at H; have c6b0 : (((rd_T59 l0 x5_1).f0) == a1_0 && (((rd_T59 l0 x5_1).f1) == a1_1)) = true := c6
      (try (have c6b1 : decide (((rd_T59 l0 x5_1).f0) = a1_0 && (((rd_T59 l0 x5_1).f1) == a1_1)) = true := by simpa using c6))
      (try (have c6b2 : (((rd_T59 l0 x5_1).f0) == a1_0 && (((rd_T59 l0 x5_1).f1) == a1_1)) = true := by simpa using c6))
      clear c6; obtain rfl := Option.some.inj H; have p117 : 0 ≤ (x5_1 : Int) := sq_dec; have q117 : x5_1 < (l0.length : Int) := sq_dec; obtain ⟨ad117, e117, hx117_0, hx117_1⟩ := at_T59 HR0.out x5_1 p117 q117; cases e117; replace hx117_0 := (HB.out.cell (World.block_lt_of_cell? w _ hx117_0)).trans hx117_0; replace hx117_1 := (HB.out.cell (World.block_lt_of_cell? w _ hx117_1)).trans hx117_1; replace p117 := eq_true p117; replace q117 := eq_true q117; have hcz7_0 := cl_ (v := .int .i64 a1_0) BK116 0; have hcz7_1 := cl_ (v := .int .i64 a1_1) BK116 1; have hfz7_0 := blk_frozen BK116.out 0; have hfz7_1 := blk_frozen BK116.out 1
      go_wp2
      repeat (go_quiet (fail); try go_wp2)
      go_ret
      exact ⟨by first | rfl | (simp [errW_none, errW_some] <;> rfl) | (simp [*, errW_none, errW_some] <;> rfl), sq_below1 HB.out GE116.out⟩
     ·
      rw [if_neg c6] at H; have c6b0 : (((rd_T59 l0 x5_1).f0) == a1_0 && (((rd_T59 l0 x5_1).f1) == a1_1)) = false := by simpa using c6
      (try (have c6b1 : decide (((rd_T59 l0 x5_1).f0) = a1_0 && (((rd_T59 l0 x5_1).f1) == a1_1)) = false := by simpa using c6))
      (try (have c6b2 : (((rd_T59 l0 x5_1).f0) == a1_0 && (((rd_T59 l0 x5_1).f1) == a1_1)) = false := by simpa using c6))
      (try (have c6b3 : ¬ (((rd_T59 l0 x5_1).f0) = a1_0 && (((rd_T59 l0 x5_1).f1) == a1_1)) := by simpa using c6))
      clear c6; have H' := Aside0.mk H; clear H; have p117 : 0 ≤ (x5_1 : Int) := sq_dec; have q117 : x5_1 < (l0.length : Int) := sq_dec; obtain ⟨ad117, e117, hx117_0, hx117_1⟩ := at_T59 HR0.out x5_1 p117 q117; cases e117; replace hx117_0 := (HB.out.cell (World.block_lt_of_cell? w _ hx117_0)).trans hx117_0; replace hx117_1 := (HB.out.cell (World.block_lt_of_cell? w _ hx117_1)).trans hx117_1; replace p117 := eq_true p117; replace q117 := eq_true q117; have hcz8_0 := cl_ (v := .int .i64 a1_0) BK116 0; have hcz8_1 := cl_ (v := .int .i64 a1_1) BK116 1; have hfz8_0 := blk_frozen BK116.out 0; have hfz8_1 := blk_frozen BK116.out 1
      go_wp2
      repeat (go_quiet (fail); try go_wp2)
      go_roundg k1
      case measure => have := HK1.out; omega
      case rel => exact ⟨(wrap64 (x5_1 + 1)), (by first | rfl | (simp; done) | (simp [*]; done)), H', ⟨by have := HK1.out; omega⟩, bk_ BK116, ⟨sq_below1 HB.out GE116.out⟩⟩
    ·
     rw [if_neg c5] at H; exact absurd H (by simp)
   ·
    rw [if_neg c4] at H; have c4b0 : decide (x5_1 < (l0.length : Int)) = false := decide_eq_false c4; clear c4; obtain rfl := Option.some.inj H
    go_wp2
    repeat (go_quiet (fail); try go_wp2)
    go_ret
    exact ⟨by first | rfl | (simp [errW_none, errW_some] <;> rfl) | (simp [*, errW_none, errW_some] <;> rfl), sq_below1 HB.out GE116.out⟩

end Go.Proofs.YtfeloencepgdlaaGreatDoor.Q
