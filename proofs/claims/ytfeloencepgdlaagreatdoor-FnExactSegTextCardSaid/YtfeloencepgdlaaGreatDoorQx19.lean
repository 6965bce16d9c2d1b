/- Functions of the translation as Lean functions, each with a proof that a call answers so; out of the seat, by this claim's own program prt.py. -/
import Derived.Test.YtfeloencepgdlaaGreatDoorWRepsOne
import Derived.Test.YtfeloencepgdlaaGreatDoorQx0
import Derived.Test.YtfeloencepgdlaaGreatDoorQx1
import Derived.Test.YtfeloencepgdlaaGreatDoorQx2
import Derived.Test.YtfeloencepgdlaaGreatDoorQx18
import Derived.Test.YtfeloencepgdlaaGreatDoorQStep
namespace Go.Proofs.YtfeloencepgdlaaGreatDoor.Q
open Go.RowKit Go.Proofs.YtfeloencepgdlaaGreatDoorW.PrintWords Go.Proofs.YtfeloencepgdlaaGreatDoorW.PrintLast Go.Proofs.YtfeloencepgdlaaGreatDoorW.PrintMore
attribute [local go_sem] max2_int min2_int max_two min_two max_three min_three max_four min_four   -- for this text's walks alone
set_option linter.unusedVariables false
set_option linter.unusedSimpArgs false

attribute [local go_sem high] eqA59 eqA64
/-! ### impl_Sym_66: function 66 -/
def impl_Sym_66.l0 : Nat → List (S59) → Int → Int → Int → Int → Option (Int)
 | 0, _, _, _, _, _ => none
 | k + 1, x0, x7, x8, x271000, x271001 => if x8 < x7 then (if 0 ≤ x8 then (if x8 < (x0.length : Int) then (if (x271000 == ((rd_T59 x0 x8).f0) && (x271001 == ((rd_T59 x0 x8).f1))) = true then (some x8) else (impl_Sym_66.l0 k x0 x7 (wrap64 (x8 + 1)) x271000 x271001)) else (none)) else (none)) else (some (-1))
def impl_Sym_66.f (k : Nat) (l0 : List (S59)) (a1_0 : Int) (a1_1 : Int) : Option (Int) := impl_Sym_66.l0 k l0 (l0.length : Int) 0 a1_0 a1_1
theorem impl_Sym_66.mono_l : ∀ k, (∀ y0 y1 y2 y3 y4, LeO (impl_Sym_66.l0 k y0 y1 y2 y3 y4) (impl_Sym_66.l0 (k + 1) y0 y1 y2 y3 y4))
 | 0 => fun _ _ _ _ _ r h => by simp [impl_Sym_66.l0] at h
 | k + 1 => by
  have ih0 := impl_Sym_66.mono_l k
  ·
   intro y0 y1 y2 y3 y4; unfold impl_Sym_66.l0
   repeat' first
   | (with_reducible exact ih0 _ _ _ _ _)
   | (with_reducible exact LeO.refl _)
   | (with_reducible exact LeO.none _)
   | (with_reducible refine LeO.ite ?_ ?_)
   | (with_reducible refine LeO.bind ?_ (fun _ => ?_))
   | exact ih0 _ _ _ _ _
   | exact LeO.none _
   | refine LeO.ite ?_ ?_
   | refine LeO.bind ?_ (fun _ => ?_)
theorem impl_Sym_66.mono : ∀ a0 a1 a2 k, LeO (impl_Sym_66.f k a0 a1 a2) (impl_Sym_66.f (k + 1) a0 a1 a2) := by
 intro a0 a1 a2 k; have ih0 := impl_Sym_66.mono_l k; unfold impl_Sym_66.f
 repeat' first
   | (with_reducible exact ih0 _ _ _ _ _)
   | (with_reducible exact LeO.refl _)
   | (with_reducible exact LeO.none _)
   | (with_reducible refine LeO.ite ?_ ?_)
   | (with_reducible refine LeO.bind ?_ (fun _ => ?_))
   | exact ih0 _ _ _ _ _
   | exact LeO.none _
   | refine LeO.ite ?_ ?_
   | refine LeO.bind ?_ (fun _ => ?_)
set_option maxHeartbeats 8000000 in
set_option maxRecDepth 100000 in
theorem impl_Sym_66.calls (k : Nat) (A0 : Option Addr) (c0 : Nat) (l0 : List (S59)) (a1_0 : Int) (a1_1 : Int) (r : Int) (w : World) (hr0 : Kd.C k59 w A0 l0.length l0) (hc0 : l0.length ≤ c0) (h : impl_Sym_66.f k l0 a1_0 a1_1 = some r) :
  Calls Tryz.prog 66 #[.slice A0 l0.length c0, .agg #[.int .i64 a1_0, .int .i64 a1_1]] w fun e w' => e = .returned (.int .i64 r) ∧ Below w.heap.size w w' := by
 have hu59 := Tryz.underlying59; have HR0 := Aside0.mk hr0; have HC0 := Aside0.mk hc0; clear hr0 hc0; have HB := Aside0.mk (Below.refl w.heap.size w); have H : (impl_Sym_66.l0 k l0 (l0.length : Int) 0 a1_0 a1_1) = some r := h; clear h; have H' := Aside0.mk H; clear H
 go_enter Tryz.func66, Tryz.ntmps66
 go_wp2_with (first | ((with_reducible refine gate_dst (N := 3) rfl ?_); refine box_y 3 #[.int .i64 a1_0, .int .i64 a1_1] 59 (h := ?_); intro gb270 hg w3 hbox hb; have n0_ := Aside0.mk (below_step (sq_below HB.out) hb); have n1_ := Aside0.mk (hbox); have n2_ := ge_ hg (below_size (sq_below HB.out)); have n3_ := ge_ hg (below_size (sq_below HB.out)); clear HB; have HB := n0_; have BK270 := n1_; have GW270 := n2_; have GE270 := n3_; clear n0_ n1_ n2_ n3_; clear hb hbox hg))
 repeat (go_quiet (first | ((with_reducible refine gate_dst (N := 3) rfl ?_); refine box_y 3 #[.int .i64 a1_0, .int .i64 a1_1] 59 (h := ?_); intro gb270 hg w3 hbox hb; have n0_ := Aside0.mk (below_step (sq_below HB.out) hb); have n1_ := Aside0.mk (hbox); have n2_ := ge_ hg (below_size (sq_below HB.out)); have n3_ := ge_ hg (below_size (sq_below HB.out)); clear HB; have HB := n0_; have BK270 := n1_; have GW270 := n2_; have GE270 := n3_; clear n0_ n1_ n2_ n3_; clear hb hbox hg)); try go_wp2_with (first | ((with_reducible refine gate_dst (N := 3) rfl ?_); refine box_y 3 #[.int .i64 a1_0, .int .i64 a1_1] 59 (h := ?_); intro gb270 hg w3 hbox hb; have n0_ := Aside0.mk (below_step (sq_below HB.out) hb); have n1_ := Aside0.mk (hbox); have n2_ := ge_ hg (below_size (sq_below HB.out)); have n3_ := ge_ hg (below_size (sq_below HB.out)); clear HB; have HB := n0_; have BK270 := n1_; have GW270 := n2_; have GE270 := n3_; clear n0_ n1_ n2_ n3_; clear hb hbox hg)))
 go_loopg [8] k (fun kq v8 w' => ∃ (x8_1 : Int), v8 = .int .i64 x8_1 ∧ Aside0 (impl_Sym_66.l0 kq l0 (l0.length : Int) x8_1 a1_0 a1_1 = some r) ∧ Aside0 (kq ≤ k) ∧ Aside0 (w'.heap[gb270]? = some (.cells #[.int .i64 a1_0, .int .i64 a1_1] 59 (0, 0))) ∧ Aside0 (Below w.heap.size w w'))
 case atStart => exact ⟨(0), (by first | rfl | (simp; done) | (simp [*]; done)), H', ⟨Nat.le_refl _⟩, bk_ BK270, ⟨sq_below1 HB.out GE270.out⟩⟩
 case round =>
  clear H'
  try clear p2
  obtain ⟨x8_1, rfl, HA, HK1, BK270, HB⟩ := hrel; cases gk with
  | zero => exact absurd HA.out (by simp [impl_Sym_66.l0])
  | succ k1 =>
   have H := HA.out; clear HA; simp only [impl_Sym_66.l0] at H
   by_cases c4 : x8_1 < (l0.length : Int)
   ·
    rw [if_pos c4] at H; have c4b0 : decide (x8_1 < (l0.length : Int)) = true := decide_eq_true c4; clear c4
    by_cases c5 : 0 ≤ x8_1
    ·
     rw [if_pos c5] at H; have c5b0 : decide (0 ≤ x8_1) = true := decide_eq_true c5; clear c5
     by_cases c6 : x8_1 < (l0.length : Int)
     ·
      rw [if_pos c6] at H; have c6b0 : decide (x8_1 < (l0.length : Int)) = true := decide_eq_true c6; clear c6
      by_cases c7 : (a1_0 == ((rd_T59 l0 x8_1).f0) && (a1_1 == ((rd_T59 l0 x8_1).f1))) = true
      ·
       rw [if_pos c7] at H; have c7b0 : (a1_0 == ((rd_T59 l0 x8_1).f0) && (a1_1 == ((rd_T59 l0 x8_1).f1))) = true := c7
       (try (have c7b1 : decide (a1_0 = ((rd_T59 l0 x8_1).f0) && (a1_1 == ((rd_T59 l0 x8_1).f1))) = true := by simpa using c7))
       (try (have c7b2 : (a1_0 == ((rd_T59 l0 x8_1).f0) && (a1_1 == ((rd_T59 l0 x8_1).f1))) = true := by simpa using c7))
       clear c7; obtain rfl := Option.some.inj H; have hcz8_0 := cl_ (v := .int .i64 a1_0) BK270 0; have hcz8_1 := cl_ (v := .int .i64 a1_1) BK270 1; have hfz8_0 := blk_frozen BK270.out 0; have hfz8_1 := blk_frozen BK270.out 1; have p271 : 0 ≤ (x8_1 : Int) := sq_dec; have q271 : x8_1 < (l0.length : Int) := sq_dec; obtain ⟨ad271, e271, hx271_0, hx271_1⟩ := at_T59 HR0.out x8_1 p271 q271; cases e271; replace hx271_0 := (HB.out.cell (World.block_lt_of_cell? w _ hx271_0)).trans hx271_0; replace hx271_1 := (HB.out.cell (World.block_lt_of_cell? w _ hx271_1)).trans hx271_1; replace p271 := eq_true p271; replace q271 := eq_true q271
       go_wp2
       repeat (go_quiet (fail); try go_wp2)
       go_ret
       exact ⟨by first | rfl | (simp [errW_none, errW_some] <;> rfl) | (simp [*, errW_none, errW_some] <;> rfl), sq_below HB.out⟩
      ·
       rw [if_neg c7] at H; have c7b0 : (a1_0 == ((rd_T59 l0 x8_1).f0) && (a1_1 == ((rd_T59 l0 x8_1).f1))) = false := by simpa using c7
       (try (have c7b1 : decide (a1_0 = ((rd_T59 l0 x8_1).f0) && (a1_1 == ((rd_T59 l0 x8_1).f1))) = false := by simpa using c7))
       (try (have c7b2 : (a1_0 == ((rd_T59 l0 x8_1).f0) && (a1_1 == ((rd_T59 l0 x8_1).f1))) = false := by simpa using c7))
       (try (have c7b3 : ¬ (a1_0 = ((rd_T59 l0 x8_1).f0) && (a1_1 == ((rd_T59 l0 x8_1).f1))) := by simpa using c7))
       clear c7; have H' := Aside0.mk H; clear H; have hcz9_0 := cl_ (v := .int .i64 a1_0) BK270 0; have hcz9_1 := cl_ (v := .int .i64 a1_1) BK270 1; have hfz9_0 := blk_frozen BK270.out 0; have hfz9_1 := blk_frozen BK270.out 1; have p271 : 0 ≤ (x8_1 : Int) := sq_dec; have q271 : x8_1 < (l0.length : Int) := sq_dec; obtain ⟨ad271, e271, hx271_0, hx271_1⟩ := at_T59 HR0.out x8_1 p271 q271; cases e271; replace hx271_0 := (HB.out.cell (World.block_lt_of_cell? w _ hx271_0)).trans hx271_0; replace hx271_1 := (HB.out.cell (World.block_lt_of_cell? w _ hx271_1)).trans hx271_1; replace p271 := eq_true p271; replace q271 := eq_true q271
       go_wp2
       repeat (go_quiet (fail); try go_wp2)
       go_roundg k1
       case measure => have := HK1.out; omega
       case rel => exact ⟨(wrap64 (x8_1 + 1)), (by first | rfl | (simp; done) | (simp [*]; done)), H', ⟨by have := HK1.out; omega⟩, bk_ BK270, ⟨sq_below1 HB.out GE270.out⟩⟩
     ·
      rw [if_neg c6] at H; exact absurd H (by simp)
    ·
     rw [if_neg c5] at H; exact absurd H (by simp)
   ·
    rw [if_neg c4] at H; have c4b0 : decide (x8_1 < (l0.length : Int)) = false := decide_eq_false c4; clear c4; obtain rfl := Option.some.inj H
    go_wp2
    repeat (go_quiet (fail); try go_wp2)
    go_ret
    exact ⟨by first | rfl | (simp [errW_none, errW_some] <;> rfl) | (simp [*, errW_none, errW_some] <;> rfl), sq_below1 HB.out GE270.out⟩

/-! ### impl_Sym_42: function 42 -/
def impl_Sym_42.f (k : Nat) (l0 : List (S59)) (a1_0 : Int) (a1_1 : Int) : Option (Bool) := (impl_Sym_66.f k l0 a1_0 a1_1).bind fun t273 => (some (decide (t273 ≥ 0)))
theorem impl_Sym_42.mono : ∀ a0 a1 a2 k, LeO (impl_Sym_42.f k a0 a1 a2) (impl_Sym_42.f (k + 1) a0 a1 a2) := by
 intro a0 a1 a2 k; unfold impl_Sym_42.f
 repeat' first
   | (with_reducible exact impl_Sym_66.mono _ _ _ _)
   | (with_reducible exact LeO.refl _)
   | (with_reducible exact LeO.none _)
   | (with_reducible refine LeO.ite ?_ ?_)
   | (with_reducible refine LeO.bind ?_ (fun _ => ?_))
   | exact impl_Sym_66.mono _ _ _ _
   | exact LeO.none _
   | refine LeO.ite ?_ ?_
   | refine LeO.bind ?_ (fun _ => ?_)
set_option maxHeartbeats 8000000 in
set_option maxRecDepth 100000 in
theorem impl_Sym_42.calls (k : Nat) (A0 : Option Addr) (c0 : Nat) (l0 : List (S59)) (a1_0 : Int) (a1_1 : Int) (r : Bool) (w : World) (hr0 : Kd.C k59 w A0 l0.length l0) (hc0 : l0.length ≤ c0) (h : impl_Sym_42.f k l0 a1_0 a1_1 = some r) :
  Calls Tryz.prog 42 #[.slice A0 l0.length c0, .agg #[.int .i64 a1_0, .int .i64 a1_1]] w fun e w' => e = .returned (.bool r) ∧ Below w.heap.size w w' := by
 have hu59 := Tryz.underlying59; have HR0 := Aside0.mk hr0; have HC0 := Aside0.mk hc0; clear hr0 hc0; have HB := Aside0.mk (Below.refl w.heap.size w); have H : ((impl_Sym_66.f k l0 a1_0 a1_1).bind fun t273 => (some (decide (t273 ≥ 0)))) = some r := h; clear h; replace H := Option.bind_eq_some_iff.mp H; obtain ⟨t273, A30, H⟩ := H; replace H : (some (decide (t273 ≥ 0))) = some r := H; have A3 := Aside0.mk A30; clear A30; obtain rfl := Option.some.inj H
 go_enter Tryz.func42, Tryz.ntmps42
 go_wp2_with (first | ((with_reducible refine gate_dst (N := 3) rfl ?_); refine box_y 3 #[.int .i64 a1_0, .int .i64 a1_1] 59 (h := ?_); intro gb272 hg w4 hbox hb; have n0_ := Aside0.mk (below_step (sq_below HB.out) hb); have n1_ := Aside0.mk (hbox); have n2_ := ge_ hg (below_size (sq_below HB.out)); have n3_ := ge_ hg (below_size (sq_below HB.out)); clear HB; have HB := n0_; have BK272 := n1_; have GW272 := n2_; have GE272 := n3_; clear n0_ n1_ n2_ n3_; clear hb hbox hg; have hcz5_0 := cl_ (v := .int .i64 a1_0) BK272 0; have hcz5_1 := cl_ (v := .int .i64 a1_1) BK272 1; have hfz5_0 := blk_frozen BK272.out 0; have hfz5_1 := blk_frozen BK272.out 1) | ((with_reducible refine gate_callee (f := 66) rfl ?_); refine gl_ 7 Tryz.func66 #[.slice A0 l0.length c0, .agg #[.int .i64 a1_0, .int .i64 a1_1]] (h := ?_); (with_reducible refine (impl_Sym_66.calls k _ _ l0 a1_0 a1_1 t273 _ ?side1 ?side2 A3.out).mono ?_); (case side1 => exact sq_c (Kd.C_below HR0.out HB.out)); (case side2 => exact HC0.out); rintro e w6 ⟨rfl, hb⟩; refine ⟨_, rfl, ?_⟩; replace HB := hb_ HB hb; (try clear hb)))
 go_ret
 exact ⟨by first | rfl | (simp [errW_none, errW_some] <;> rfl) | (simp [*, errW_none, errW_some] <;> rfl), sq_below HB.out⟩

/-! ### impl_ends: function 43 -/
def impl_ends.f (a0 : Int) : Option (Int × Int × Int × Int) := some (0, 0, a0, 0)
set_option maxHeartbeats 8000000 in
set_option maxRecDepth 100000 in
theorem impl_ends.calls (a0 : Int) (r1 : Int) (r2 : Int) (r3 : Int) (r4 : Int) (w : World) (h : impl_ends.f a0 = some (r1, r2, r3, r4)) :
  Calls Tryz.prog 43 #[.int .i64 a0] w fun e w' => e = .returned (.tuple #[.agg #[.int .i64 r1, .int .i64 r2], .agg #[.int .i64 r3, .int .i64 r4]]) ∧ Below w.heap.size w w' := by
 have hu59 := Tryz.underlying59; have HB := Aside0.mk (Below.refl w.heap.size w); have H : (some (0, 0, a0, 0)) = some (r1, r2, r3, r4) := h; clear h; simp only [Option.some.injEq, Prod.mk.injEq] at H; obtain ⟨rfl, rfl, rfl, rfl⟩ := H
 go_enter Tryz.func43, Tryz.ntmps43
 go_wp2_with (first | ((with_reducible refine gate_dst (N := 2) rfl ?_); refine box_y 2 #[.int .i64 0, .int .i64 0] 59 (h := ?_); intro gb274 hg w2 hbox hb; have n0_ := Aside0.mk (below_step (sq_below HB.out) hb); have n1_ := Aside0.mk (hbox); have n2_ := ge_ hg (below_size (sq_below HB.out)); have n3_ := ge_ hg (below_size (sq_below HB.out)); clear HB; have HB := n0_; have BK274 := n1_; have GW274 := n2_; have GE274 := n3_; clear n0_ n1_ n2_ n3_; clear hb hbox hg) | ((with_reducible refine gate_dst (N := 3) rfl ?_); refine box_y 3 #[.int .i64 0, .int .i64 0] 59 (h := ?_); intro gb275 hg w3 hbox hb; have n0_ := Aside0.mk (blk_below (sq_blk BK274.out) hb); have n1_ := Aside0.mk (below_step (sq_below1 HB.out GE274.out) hb); have n2_ := Aside0.mk (hbox); have n3_ := ge_ hg (below_size (sq_below1 HB.out GE274.out)); have n4_ := ge_ hg (below_size (sq_below1 HB.out GE274.out)); have n5_ := nb_ hg BK274; have n6_ := Aside0.mk (Ne.symm n5_.out); clear BK274; clear HB; have BK274 := n0_; have HB := n1_; have BK275 := n2_; have GW275 := n3_; have GE275 := n4_; have NB274_275 := n5_; have NB275_274 := n6_; clear n0_ n1_ n2_ n3_ n4_ n5_ n6_; clear hb hbox hg; have hnb4 := NB274_275.out; have hnc4 := NB275_274.out; have hcz5_0 := cl_ (v := .int .i64 0) BK274 0; have hcz5_1 := cl_ (v := .int .i64 0) BK274 1; have hfz5_0 := blk_frozen BK274.out 0; have hfz5_1 := blk_frozen BK274.out 1; have hcz6_0 := cl_ (v := .int .i64 0) BK275 0; have hcz6_1 := cl_ (v := .int .i64 0) BK275 1; have hfz6_0 := blk_frozen BK275.out 0; have hfz6_1 := blk_frozen BK275.out 1))
 refine bodyPost_ret (results_cc rfl _ _ gb274 gb275 59 59 #[.int .i64 0, .int .i64 0] #[.int .i64 a0, .int .i64 0] (0, 0) (0, 0) _ _ rfl (bp1_ BK274 NB274_275) Tryz.underlying59 rfl (by kernel_rfl) rfl (bp1_ BK275 NB275_274) Tryz.underlying59 rfl (by kernel_rfl)) rfl ?_; exact ⟨by first | rfl | (simp [errW_none, errW_some] <;> rfl) | (simp [*, errW_none, errW_some] <;> rfl), sq_below2 HB.out GE274.out GE275.out⟩

/-! ### impl_isVal: function 90 -/
def impl_isVal.f (a0 : Int) : Option (Bool) := (impl_inRange.f a0 (-1000000) 1000000).bind fun t276 => (some t276)
set_option maxHeartbeats 8000000 in
set_option maxRecDepth 100000 in
theorem impl_isVal.calls (a0 : Int) (r : Bool) (w : World) (h : impl_isVal.f a0 = some r) :
  Calls Tryz.prog 90 #[.int .i64 a0] w fun e w' => e = .returned (.bool r) ∧ Drawn0 w w' := by
 have H : ((impl_inRange.f a0 (-1000000) 1000000).bind fun t276 => (some t276)) = some r := h; clear h; replace H := Option.bind_eq_some_iff.mp H; obtain ⟨t276, A20, H⟩ := H; replace H : (some t276) = some r := H; have A2 := Aside0.mk A20; clear A20; obtain rfl := Option.some.inj H
 go_enter Tryz.func90, Tryz.ntmps90
 go_wp2_with (first | ((with_reducible refine gate_callee (f := 39) rfl ?_); refine gl_ 4 Tryz.func39 #[.int .i64 a0, .int .i64 (-1000000), .int .i64 1000000] (h := ?_); (with_reducible refine (impl_inRange.calls a0 (-1000000) 1000000 t276 _ A2.out).mono ?_); rintro e w' ⟨rfl, ⟨nd, rfl⟩⟩; refine ⟨_, rfl, ?_⟩))
 go_ret
 exact ⟨by first | rfl | (simp; done) | (simp [*]; done), by repeat (first | exact Drawn0.refl _ | apply Drawn0.step)⟩

/-! ### impl_RangeOk: function 68 -/
def impl_RangeOk.f (a0_0 : Int) (a0_1 : Int) : Option (Bool) := if (a0_0 == 1 && (a0_1 == 0)) = true then (some true) else ((impl_isVal.f a0_0).bind fun t278 => (if t278 = true then ((impl_isVal.f a0_1).bind fun t279 => (if t279 = true then (some (decide (a0_0 ≤ a0_1))) else (some false))) else (some false)))
set_option maxHeartbeats 8000000 in
set_option maxRecDepth 100000 in
theorem impl_RangeOk.calls (a0_0 : Int) (a0_1 : Int) (r : Bool) (w : World) (hG0 : GL0 w) (h : impl_RangeOk.f a0_0 a0_1 = some r) :
  Calls Tryz.prog 68 #[.agg #[.int .i64 a0_0, .int .i64 a0_1]] w fun e w' => e = .returned (.bool r) ∧ Below w.heap.size w w' := by
 have hu64 := Tryz.underlying64; have HB := Aside0.mk (Below.refl w.heap.size w); have HG0 := Aside0.mk hG0; clear hG0; have H : (if (a0_0 == 1 && (a0_1 == 0)) = true then (some true) else ((impl_isVal.f a0_0).bind fun t278 => (if t278 = true then ((impl_isVal.f a0_1).bind fun t279 => (if t279 = true then (some (decide (a0_0 ≤ a0_1))) else (some false))) else (some false)))) = some r := h; clear h
 by_cases c2 : (a0_0 == 1 && (a0_1 == 0)) = true
 ·
  rw [if_pos c2] at H; have c2b0 : (a0_0 == 1 && (a0_1 == 0)) = true := c2
  (try (have c2b1 : decide (a0_0 = 1 && (a0_1 == 0)) = true := by simpa using c2))
  (try (have c2b2 : (a0_0 == 1 && (a0_1 == 0)) = true := by simpa using c2))
  clear c2; obtain rfl := Option.some.inj H
  go_enter Tryz.func68, Tryz.ntmps68
  go_wp2_with (first | ((with_reducible refine gate_dst (N := 1) rfl ?_); refine box_y 1 #[.int .i64 a0_0, .int .i64 a0_1] 64 (h := ?_); intro gb277 hg w3 hbox hb; have n0_ := Aside0.mk (below_step (sq_below HB.out) hb); have n1_ := Aside0.mk (hbox); have n2_ := ge_ hg (below_size (sq_below HB.out)); have n3_ := ge_ hg (below_size (sq_below HB.out)); clear HB; have HB := n0_; have BK277 := n1_; have GW277 := n2_; have GE277 := n3_; clear n0_ n1_ n2_ n3_; clear hb hbox hg; have hcz4_0 := cl_ (v := .int .i64 a0_0) BK277 0; have hcz4_1 := cl_ (v := .int .i64 a0_1) BK277 1; have hfz4_0 := blk_frozen BK277.out 0; have hfz4_1 := blk_frozen BK277.out 1; have hgl5_0 : w3.cell? ⟨0, 0, none⟩ = some (.int .i64 1) := GL0.c0 (GL0.below HG0.out HB.out); have hgl5_1 : w3.cell? ⟨0, 1, none⟩ = some (.int .i64 0) := GL0.c1 (GL0.below HG0.out HB.out)))
  go_ret
  exact ⟨by first | rfl | (simp [errW_none, errW_some] <;> rfl) | (simp [*, errW_none, errW_some] <;> rfl), sq_below HB.out⟩
 ·
  rw [if_neg c2] at H; have c2b0 : (a0_0 == 1 && (a0_1 == 0)) = false := by simpa using c2
  (try (have c2b1 : decide (a0_0 = 1 && (a0_1 == 0)) = false := by simpa using c2))
  (try (have c2b2 : (a0_0 == 1 && (a0_1 == 0)) = false := by simpa using c2))
  (try (have c2b3 : ¬ (a0_0 = 1 && (a0_1 == 0)) := by simpa using c2))
  clear c2; replace H := Option.bind_eq_some_iff.mp H; obtain ⟨t278, A60, H⟩ := H; (try dsimp only at H); have A6 := Aside0.mk A60; clear A60
  by_cases c7 : t278 = true
  ·
   subst c7; have H1 := ifp_ H
   clear H; have H := H1; clear H1; replace H := Option.bind_eq_some_iff.mp H; obtain ⟨t279, A80, H⟩ := H; (try dsimp only at H); have A8 := Aside0.mk A80; clear A80
   by_cases c9 : t279 = true
   ·
    subst c9; have H1 := ifp_ H
    clear H; have H := H1; clear H1; obtain rfl := Option.some.inj H
    go_enter Tryz.func68, Tryz.ntmps68
    go_wp2_with (first | ((with_reducible refine gate_dst (N := 1) rfl ?_); refine box_y 1 #[.int .i64 a0_0, .int .i64 a0_1] 64 (h := ?_); intro gb277 hg w10 hbox hb; have n0_ := Aside0.mk (below_step (sq_below HB.out) hb); have n1_ := Aside0.mk (hbox); have n2_ := ge_ hg (below_size (sq_below HB.out)); have n3_ := ge_ hg (below_size (sq_below HB.out)); clear HB; have HB := n0_; have BK277 := n1_; have GW277 := n2_; have GE277 := n3_; clear n0_ n1_ n2_ n3_; clear hb hbox hg; have hcz11_0 := cl_ (v := .int .i64 a0_0) BK277 0; have hcz11_1 := cl_ (v := .int .i64 a0_1) BK277 1; have hfz11_0 := blk_frozen BK277.out 0; have hfz11_1 := blk_frozen BK277.out 1; have hgl12_0 : w10.cell? ⟨0, 0, none⟩ = some (.int .i64 1) := GL0.c0 (GL0.below HG0.out HB.out); have hgl12_1 : w10.cell? ⟨0, 1, none⟩ = some (.int .i64 0) := GL0.c1 (GL0.below HG0.out HB.out); have hnggl12_277 : gb277 ≠ 0 := (by first | exact Nat.ne_of_gt (Nat.lt_of_lt_of_le (World.block_lt_of_cell? _ _ (GL0.c0 HG0.out)) GE277.out) | exact Nat.ne_of_gt (Nat.lt_of_lt_of_le (World.block_lt_of_cell? _ _ (GL0.c0 HG0.out)) GW277.out)); have hnhgl12_277 := Ne.symm hnggl12_277) | (go_at_call 90; (with_reducible refine (impl_isVal.calls a0_0 true _ A6.out).mono ?_); rintro e w' ⟨rfl, ⟨nd, rfl⟩⟩) | (go_at_call 90; (with_reducible refine (impl_isVal.calls a0_1 true _ A8.out).mono ?_); rintro e w' ⟨rfl, ⟨nd, rfl⟩⟩))
    go_ret
    exact ⟨by first | rfl | (simp [errW_none, errW_some] <;> rfl) | (simp [*, errW_none, errW_some] <;> rfl), sq_below1 HB.out GE277.out⟩
   ·
    replace c9 := Bool.eq_false_iff.mpr c9; subst c9; have H1 := ifn_ H
    clear H; have H := H1; clear H1; obtain rfl := Option.some.inj H
    go_enter Tryz.func68, Tryz.ntmps68
    go_wp2_with (first | ((with_reducible refine gate_dst (N := 1) rfl ?_); refine box_y 1 #[.int .i64 a0_0, .int .i64 a0_1] 64 (h := ?_); intro gb277 hg w13 hbox hb; have n0_ := Aside0.mk (below_step (sq_below HB.out) hb); have n1_ := Aside0.mk (hbox); have n2_ := ge_ hg (below_size (sq_below HB.out)); have n3_ := ge_ hg (below_size (sq_below HB.out)); clear HB; have HB := n0_; have BK277 := n1_; have GW277 := n2_; have GE277 := n3_; clear n0_ n1_ n2_ n3_; clear hb hbox hg; have hcz14_0 := cl_ (v := .int .i64 a0_0) BK277 0; have hcz14_1 := cl_ (v := .int .i64 a0_1) BK277 1; have hfz14_0 := blk_frozen BK277.out 0; have hfz14_1 := blk_frozen BK277.out 1; have hgl15_0 : w13.cell? ⟨0, 0, none⟩ = some (.int .i64 1) := GL0.c0 (GL0.below HG0.out HB.out); have hgl15_1 : w13.cell? ⟨0, 1, none⟩ = some (.int .i64 0) := GL0.c1 (GL0.below HG0.out HB.out); have hnggl15_277 : gb277 ≠ 0 := (by first | exact Nat.ne_of_gt (Nat.lt_of_lt_of_le (World.block_lt_of_cell? _ _ (GL0.c0 HG0.out)) GE277.out) | exact Nat.ne_of_gt (Nat.lt_of_lt_of_le (World.block_lt_of_cell? _ _ (GL0.c0 HG0.out)) GW277.out)); have hnhgl15_277 := Ne.symm hnggl15_277) | (go_at_call 90; (with_reducible refine (impl_isVal.calls a0_0 true _ A6.out).mono ?_); rintro e w' ⟨rfl, ⟨nd, rfl⟩⟩) | (go_at_call 90; (with_reducible refine (impl_isVal.calls a0_1 false _ A8.out).mono ?_); rintro e w' ⟨rfl, ⟨nd, rfl⟩⟩))
    go_ret
    exact ⟨by first | rfl | (simp [errW_none, errW_some] <;> rfl) | (simp [*, errW_none, errW_some] <;> rfl), sq_below HB.out⟩
  ·
   replace c7 := Bool.eq_false_iff.mpr c7; subst c7; have H1 := ifn_ H
   clear H; have H := H1; clear H1; obtain rfl := Option.some.inj H
   go_enter Tryz.func68, Tryz.ntmps68
   go_wp2_with (first | ((with_reducible refine gate_dst (N := 1) rfl ?_); refine box_y 1 #[.int .i64 a0_0, .int .i64 a0_1] 64 (h := ?_); intro gb277 hg w16 hbox hb; have n0_ := Aside0.mk (below_step (sq_below HB.out) hb); have n1_ := Aside0.mk (hbox); have n2_ := ge_ hg (below_size (sq_below HB.out)); have n3_ := ge_ hg (below_size (sq_below HB.out)); clear HB; have HB := n0_; have BK277 := n1_; have GW277 := n2_; have GE277 := n3_; clear n0_ n1_ n2_ n3_; clear hb hbox hg; have hcz17_0 := cl_ (v := .int .i64 a0_0) BK277 0; have hcz17_1 := cl_ (v := .int .i64 a0_1) BK277 1; have hfz17_0 := blk_frozen BK277.out 0; have hfz17_1 := blk_frozen BK277.out 1; have hgl18_0 : w16.cell? ⟨0, 0, none⟩ = some (.int .i64 1) := GL0.c0 (GL0.below HG0.out HB.out); have hgl18_1 : w16.cell? ⟨0, 1, none⟩ = some (.int .i64 0) := GL0.c1 (GL0.below HG0.out HB.out); have hnggl18_277 : gb277 ≠ 0 := (by first | exact Nat.ne_of_gt (Nat.lt_of_lt_of_le (World.block_lt_of_cell? _ _ (GL0.c0 HG0.out)) GE277.out) | exact Nat.ne_of_gt (Nat.lt_of_lt_of_le (World.block_lt_of_cell? _ _ (GL0.c0 HG0.out)) GW277.out)); have hnhgl18_277 := Ne.symm hnggl18_277) | (go_at_call 90; (with_reducible refine (impl_isVal.calls a0_0 false _ A6.out).mono ?_); rintro e w' ⟨rfl, ⟨nd, rfl⟩⟩))
   go_ret
   exact ⟨by first | rfl | (simp [errW_none, errW_some] <;> rfl) | (simp [*, errW_none, errW_some] <;> rfl), sq_below HB.out⟩

/-! ### impl_ValOk: function 46 -/
def impl_ValOk.f (a0_0 : Int) (a0_1 : Int) (a0_2 : Bool) : Option (Bool) := (impl_RangeOk.f a0_0 a0_1).bind fun t281 => (some t281)
set_option maxHeartbeats 8000000 in
set_option maxRecDepth 100000 in
theorem impl_ValOk.calls (a0_0 : Int) (a0_1 : Int) (a0_2 : Bool) (r : Bool) (w : World) (hG0 : GL0 w) (h : impl_ValOk.f a0_0 a0_1 a0_2 = some r) :
  Calls Tryz.prog 46 #[.agg #[.int .i64 a0_0, .int .i64 a0_1, .bool a0_2]] w fun e w' => e = .returned (.bool r) ∧ Below w.heap.size w w' := by
 have hu66 := Tryz.underlying66; have hu64 := Tryz.underlying64; have HB := Aside0.mk (Below.refl w.heap.size w); have HG0 := Aside0.mk hG0; clear hG0; have H : ((impl_RangeOk.f a0_0 a0_1).bind fun t281 => (some t281)) = some r := h; clear h; replace H := Option.bind_eq_some_iff.mp H; obtain ⟨t281, A20, H⟩ := H; replace H : (some t281) = some r := H; have A2 := Aside0.mk A20; clear A20; obtain rfl := Option.some.inj H
 go_enter Tryz.func46, Tryz.ntmps46
 go_wp2_with (first | ((with_reducible refine gate_dst (N := 1) rfl ?_); refine box_y 1 #[.int .i64 a0_0, .int .i64 a0_1, .bool a0_2] 66 (h := ?_); intro gb280 hg w3 hbox hb; have n0_ := Aside0.mk (below_step (sq_below HB.out) hb); have n1_ := Aside0.mk (hbox); have n2_ := ge_ hg (below_size (sq_below HB.out)); have n3_ := ge_ hg (below_size (sq_below HB.out)); clear HB; have HB := n0_; have BK280 := n1_; have GW280 := n2_; have GE280 := n3_; clear n0_ n1_ n2_ n3_; clear hb hbox hg; have hcz4_0 := cl_ (v := .int .i64 a0_0) BK280 0; have hcz4_1 := cl_ (v := .int .i64 a0_1) BK280 1; have hcz4_2 := cl_ (v := .bool a0_2) BK280 2; have hfz4_0 := blk_frozen BK280.out 0; have hfz4_1 := blk_frozen BK280.out 1; have hfz4_2 := blk_frozen BK280.out 2) | ((with_reducible refine gate_callee (f := 68) rfl ?_); refine gl_ 5 Tryz.func68 #[.agg #[.int .i64 a0_0, .int .i64 a0_1]] (h := ?_); (with_reducible refine (impl_RangeOk.calls a0_0 a0_1 t281 _ ?side1 A2.out).mono ?_); (case side1 => exact GL0.below HG0.out (sq_below HB.out)); rintro e w5 ⟨rfl, hb⟩; refine ⟨_, rfl, ?_⟩; replace HB := hb_ HB hb; (try clear hb)))
 go_ret
 exact ⟨by first | rfl | (simp [errW_none, errW_some] <;> rfl) | (simp [*, errW_none, errW_some] <;> rfl), sq_below HB.out⟩

/-! ### impl_SegOk_1: function 45 -/
def impl_SegOk_1.f (a0_0 : Int) (a0_1 : Int) (a0_2 : Bool) : Option (Bool) := (impl_ValOk.f a0_0 a0_1 a0_2).bind fun t283 => (some (!t283))
set_option maxHeartbeats 8000000 in
set_option maxRecDepth 100000 in
theorem impl_SegOk_1.calls (a0_0 : Int) (a0_1 : Int) (a0_2 : Bool) (r : Bool) (w : World) (hG0 : GL0 w) (h : impl_SegOk_1.f a0_0 a0_1 a0_2 = some r) :
  Calls Tryz.prog 45 #[.agg #[.int .i64 a0_0, .int .i64 a0_1, .bool a0_2]] w fun e w' => e = .returned (.bool r) ∧ Below w.heap.size w w' := by
 have hu66 := Tryz.underlying66; have HB := Aside0.mk (Below.refl w.heap.size w); have HG0 := Aside0.mk hG0; clear hG0; have H : ((impl_ValOk.f a0_0 a0_1 a0_2).bind fun t283 => (some (!t283))) = some r := h; clear h; replace H := Option.bind_eq_some_iff.mp H; obtain ⟨t283, A20, H⟩ := H; replace H : (some (!t283)) = some r := H; have A2 := Aside0.mk A20; clear A20; obtain rfl := Option.some.inj H
 go_enter Tryz.func45, Tryz.ntmps45
 go_wp2_with (first | ((with_reducible refine gate_dst (N := 1) rfl ?_); refine box_y 1 #[.int .i64 a0_0, .int .i64 a0_1, .bool a0_2] 66 (h := ?_); intro gb282 hg w3 hbox hb; have n0_ := Aside0.mk (below_step (sq_below HB.out) hb); have n1_ := Aside0.mk (hbox); have n2_ := ge_ hg (below_size (sq_below HB.out)); have n3_ := ge_ hg (below_size (sq_below HB.out)); clear HB; have HB := n0_; have BK282 := n1_; have GW282 := n2_; have GE282 := n3_; clear n0_ n1_ n2_ n3_; clear hb hbox hg; have hcz4_0 := cl_ (v := .int .i64 a0_0) BK282 0; have hcz4_1 := cl_ (v := .int .i64 a0_1) BK282 1; have hcz4_2 := cl_ (v := .bool a0_2) BK282 2; have hfz4_0 := blk_frozen BK282.out 0; have hfz4_1 := blk_frozen BK282.out 1; have hfz4_2 := blk_frozen BK282.out 2) | ((with_reducible refine gate_callee (f := 46) rfl ?_); refine gl_ 4 Tryz.func46 #[.agg #[.int .i64 a0_0, .int .i64 a0_1, .bool a0_2]] (h := ?_); (with_reducible refine (impl_ValOk.calls a0_0 a0_1 a0_2 t283 _ ?side1 A2.out).mono ?_); (case side1 => exact GL0.below HG0.out (sq_below HB.out)); rintro e w5 ⟨rfl, hb⟩; refine ⟨_, rfl, ?_⟩; replace HB := hb_ HB hb; (try clear hb)))
 go_ret
 exact ⟨by first | rfl | (simp [errW_none, errW_some] <;> rfl) | (simp [*, errW_none, errW_some] <;> rfl), sq_below HB.out⟩

end Go.Proofs.YtfeloencepgdlaaGreatDoor.Q
