/- Functions of the translation as Lean functions, each with a proof that a call answers so; out of the seat, by this claim's own program prt.py. -/
import Derived.Test.YtmibaaicadgchaaDoorWTab
import Derived.Test.YtmibaaicadgchaaDoorWRepsOne
import Derived.Test.YtmibaaicadgchaaDoorQx0
import Derived.Test.YtmibaaicadgchaaDoorQx24
import Derived.Test.YtmibaaicadgchaaDoorQx25
import Derived.Test.YtmibaaicadgchaaDoorQx35
import Derived.Test.YtmibaaicadgchaaDoorQStep
namespace Go.Proofs.YtmibaaicadgchaaDoor.Q
open Go.RowKit Go.Proofs.YtmibaaicadgchaaDoorW.PrintWords Go.Proofs.YtmibaaicadgchaaDoorW.PrintLast Go.Proofs.YtmibaaicadgchaaDoorW.PrintMore
attribute [local go_sem] max2_int min2_int max_two min_two max_three min_three max_four min_four   -- for this text's walks alone
set_option linter.unusedVariables false
set_option linter.unusedSimpArgs false

/-! ### spec_ValWiden: function 38 -/
abbrev spec_ValWiden.b0_ : Array Bool := #[false, false, false, false, false, false, false, false, false, false, false, false, false, false]
abbrev spec_ValWiden.b1_ : Array Bool := #[true, false, false, false, false, false, false, false, false, false, false, false, false, false]
abbrev spec_ValWiden.b2_ : Array Bool := #[true, false, true, false, false, false, false, false, false, false, false, false, false, false]
abbrev spec_ValWiden.b3_ : Array Bool := #[true, false, true, false, true, false, false, false, false, false, false, false, false, false]
abbrev spec_ValWiden.b4_ : Array Bool := #[true, false, true, false, true, false, true, false, false, false, false, false, false, false]
abbrev spec_ValWiden.b5_ : Array Bool := #[true, true, true, false, true, false, true, false, false, false, false, false, false, false]
abbrev spec_ValWiden.b6_ : Array Bool := #[true, true, true, true, true, false, true, false, false, false, false, false, false, false]
abbrev spec_ValWiden.b7_ : Array Bool := #[true, true, true, true, true, false, true, true, false, false, false, false, false, false]
abbrev spec_ValWiden.b8_ : Array Bool := #[true, true, true, true, true, true, true, true, false, false, false, false, false, false]
abbrev spec_ValWiden.b9_ : Array Bool := #[true, true, true, true, true, true, true, true, true, false, false, false, false, false]
abbrev spec_ValWiden.b10_ : Array Bool := #[true, true, true, true, true, true, true, true, true, true, false, false, false, false]
abbrev spec_ValWiden.b11_ : Array Bool := #[true, true, true, true, true, true, true, true, true, true, true, false, false, false]
abbrev spec_ValWiden.b12_ : Array Bool := #[true, true, true, true, true, true, true, true, true, true, true, true, false, false]
abbrev spec_ValWiden.b13_ : Array Bool := #[true, true, true, true, true, true, true, true, true, true, true, true, true, false]
abbrev spec_ValWiden.b14_ : Array Bool := #[true, true, true, true, true, true, true, true, true, true, true, true, true, true]
def spec_ValWiden.j0 : Nat → List Int → Bool → Int → Int → Bool → Int → Int → Bool → Option (Int × Int × Bool)
 | 0, _, _, _, _, _, _, _, _ => none
 | k + 1, x2, x19, x695000, x695001, x695002, x696000, x696001, x696002 => if x19 = true then ((spec_l09None.f).bind fun bt700 => (some (bt700.1, bt700.2.1, bt700.2.2))) else ((spec_RangeWiden.f k x695000 x695001 x696000 x696001 x2).bind fun bt703 => (if x695002 = true then (some (bt703.1, bt703.2, x696002)) else (some (bt703.1, bt703.2, false))))
def spec_ValWiden.f (k : Nat) (a0_0 : Int) (a0_1 : Int) (a0_2 : Bool) (a1_0 : Int) (a1_1 : Int) (a1_2 : Bool) (l2 : List Int) : Option (Int × Int × Bool) := (spec_ValOk.f a0_0 a0_1 a0_2).bind fun t697 => (if t697 = true then ((spec_ValOk.f a1_0 a1_1 a1_2).bind fun t698 => (if t698 = true then ((spec_l06Steps.f k l2).bind fun t699 => (spec_ValWiden.j0 k l2 (!t699) a0_0 a0_1 a0_2 a1_0 a1_1 a1_2)) else (spec_ValWiden.j0 k l2 true a0_0 a0_1 a0_2 a1_0 a1_1 a1_2))) else (spec_ValWiden.j0 k l2 true a0_0 a0_1 a0_2 a1_0 a1_1 a1_2))
theorem spec_ValWiden.mono_l : ∀ k, (∀ y0 y1 y2 y3 y4 y5 y6 y7, LeO (spec_ValWiden.j0 k y0 y1 y2 y3 y4 y5 y6 y7) (spec_ValWiden.j0 (k + 1) y0 y1 y2 y3 y4 y5 y6 y7))
 | 0 => fun _ _ _ _ _ _ _ _ r h => by simp [spec_ValWiden.j0] at h
 | k + 1 => by
  have ih0 := spec_ValWiden.mono_l k
  ·
   intro y0 y1 y2 y3 y4 y5 y6 y7; unfold spec_ValWiden.j0
   repeat' first
   | (with_reducible exact ih0 _ _ _ _ _ _ _ _)
   | (with_reducible exact spec_RangeWiden.mono _ _ _ _ _ _)
   | (with_reducible exact spec_l06Steps.mono _ _)
   | (with_reducible exact LeO.refl _)
   | (with_reducible exact LeO.none _)
   | (with_reducible refine LeO.ite ?_ ?_)
   | (with_reducible refine LeO.bind ?_ (fun _ => ?_))
   | exact ih0 _ _ _ _ _ _ _ _
   | exact spec_RangeWiden.mono _ _ _ _ _ _
   | exact spec_l06Steps.mono _ _
   | exact LeO.none _
   | refine LeO.ite ?_ ?_
   | refine LeO.bind ?_ (fun _ => ?_)
theorem spec_ValWiden.mono : ∀ a0 a1 a2 a3 a4 a5 a6 k, LeO (spec_ValWiden.f k a0 a1 a2 a3 a4 a5 a6) (spec_ValWiden.f (k + 1) a0 a1 a2 a3 a4 a5 a6) := by
 intro a0 a1 a2 a3 a4 a5 a6 k; have ih0 := spec_ValWiden.mono_l k; unfold spec_ValWiden.f
 repeat' first
   | (with_reducible exact ih0 _ _ _ _ _ _ _ _)
   | (with_reducible exact spec_RangeWiden.mono _ _ _ _ _ _)
   | (with_reducible exact spec_l06Steps.mono _ _)
   | (with_reducible exact LeO.refl _)
   | (with_reducible exact LeO.none _)
   | (with_reducible refine LeO.ite ?_ ?_)
   | (with_reducible refine LeO.bind ?_ (fun _ => ?_))
   | exact ih0 _ _ _ _ _ _ _ _
   | exact spec_RangeWiden.mono _ _ _ _ _ _
   | exact spec_l06Steps.mono _ _
   | exact LeO.none _
   | refine LeO.ite ?_ ?_
   | refine LeO.bind ?_ (fun _ => ?_)
def spec_ValWiden.T3 : Bool × List (List Nat × List Nat) := (true, [([], []), ([0], [0]), ([], []), ([2], [2]), ([], []), ([1, 3, 4], [1, 3, 4]), ([], []), ([6], [6]), ([7, 5], [7]), ([8], [8]), ([9, 8], [8, 9]), ([8, 10], [8, 10]), ([5, 11], [5, 11]), ([12, 8, 0, 1, 2, 3, 4, 5, 6, 7, 8, 9, 10, 11, 12], [12])])
def spec_ValWiden.B3 : List Nat := [0, 1, 0, 4, 0, 31, 0, 64, 255, 511, 1023, 2047, 4095, 8191]
theorem spec_ValWiden.tab3 : rtab .any (opsOf Tryd.f38 3) = spec_ValWiden.T3 := by kernel_rfl
theorem spec_ValWiden.bits3 : waitsOk spec_ValWiden.T3.2 spec_ValWiden.B3 = true := by kernel_rfl
set_option maxHeartbeats 8000000 in
set_option maxRecDepth 100000 in
theorem spec_ValWiden.calls (k : Nat) (a0_0 : Int) (a0_1 : Int) (a0_2 : Bool) (a1_0 : Int) (a1_1 : Int) (a1_2 : Bool) (A2 : Option Addr) (c2 : Nat) (l2 : List Int) (r1 : Int) (r2 : Int) (r3 : Bool) (w : World) (hr2 : Kd.C (Kd.int .i64) w A2 l2.length l2) (hc2 : l2.length ≤ c2) (h : spec_ValWiden.f k a0_0 a0_1 a0_2 a1_0 a1_1 a1_2 l2 = some (r1, r2, r3)) :
  Calls Tryd.prog 38 #[.agg #[.int .i64 a0_0, .int .i64 a0_1, .bool a0_2], .agg #[.int .i64 a1_0, .int .i64 a1_1, .bool a1_2], .slice A2 l2.length c2] w fun e w' => e = .returned (.agg #[.int .i64 r1, .int .i64 r2, .bool r3]) ∧ Below w.heap.size w w' := by
 have hu44 := Tryd.underlying44; have hu25 := Tryd.underlying25; have HR2 := Aside0.mk hr2; have HC2 := Aside0.mk hc2; clear hr2 hc2; have HB := Aside0.mk (Below.refl w.heap.size w); have H : ((spec_ValOk.f a0_0 a0_1 a0_2).bind fun t697 => (if t697 = true then ((spec_ValOk.f a1_0 a1_1 a1_2).bind fun t698 => (if t698 = true then ((spec_l06Steps.f k l2).bind fun t699 => (spec_ValWiden.j0 k l2 (!t699) a0_0 a0_1 a0_2 a1_0 a1_1 a1_2)) else (spec_ValWiden.j0 k l2 true a0_0 a0_1 a0_2 a1_0 a1_1 a1_2))) else (spec_ValWiden.j0 k l2 true a0_0 a0_1 a0_2 a1_0 a1_1 a1_2))) = some (r1, r2, r3) := h; clear h; have HC4 := Aside0.mk H; clear H
 go_enter Tryd.func38, Tryd.ntmps38
 go_upto_region 1 with (first | ((with_reducible refine gate_dst (N := 3) rfl ?_); refine box_y 3 #[.int .i64 a0_0, .int .i64 a0_1, .bool a0_2] 44 (h := ?_); intro gb694 hg w5 hbox hb; have n0_ := Aside0.mk (below_step (sq_below HB.out) hb); have n1_ := Aside0.mk (hbox); have n2_ := ge_ hg (below_size (sq_below HB.out)); have n3_ := ge_ hg (below_size (sq_below HB.out)); clear HB; have HB := n0_; have BK694 := n1_; have GW694 := n2_; have GE694 := n3_; clear n0_ n1_ n2_ n3_; clear hb hbox hg) | ((with_reducible refine gate_dst (N := 4) rfl ?_); refine box_y 4 #[.int .i64 a1_0, .int .i64 a1_1, .bool a1_2] 44 (h := ?_); intro gb695 hg w6 hbox hb; have n0_ := Aside0.mk (blk_below (sq_blk BK694.out) hb); have n1_ := Aside0.mk (below_step (sq_below1 HB.out GE694.out) hb); have n2_ := Aside0.mk (hbox); have n3_ := ge_ hg (below_size (sq_below1 HB.out GE694.out)); have n4_ := ge_ hg (below_size (sq_below1 HB.out GE694.out)); have n5_ := nb_ hg BK694; have n6_ := Aside0.mk (Ne.symm n5_.out); clear BK694; clear HB; have BK694 := n0_; have HB := n1_; have BK695 := n2_; have GW695 := n3_; have GE695 := n4_; have NB694_695 := n5_; have NB695_694 := n6_; clear n0_ n1_ n2_ n3_ n4_ n5_ n6_; clear hb hbox hg) | ((with_reducible refine gate_dst (N := 6) rfl ?_); refine box_y 6 #[.int .i64 0, .int .i64 0, .bool false] 44 (h := ?_); intro gb696 hg w7 hbox hb; have n0_ := Aside0.mk (blk_below (sq_blk BK694.out) hb); have n1_ := Aside0.mk (blk_below (sq_blk BK695.out) hb); have n2_ := Aside0.mk (below_step (sq_below2 HB.out GE694.out GE695.out) hb); have n3_ := Aside0.mk (hbox); have n4_ := ge_ hg (below_size (sq_below2 HB.out GE694.out GE695.out)); have n5_ := ge_ hg (below_size (sq_below2 HB.out GE694.out GE695.out)); have n6_ := nb_ hg BK694; have n7_ := Aside0.mk (Ne.symm n6_.out); have n8_ := nb_ hg BK695; have n9_ := Aside0.mk (Ne.symm n8_.out); clear BK694; clear BK695; clear HB; have BK694 := n0_; have BK695 := n1_; have HB := n2_; have BK696 := n3_; have GW696 := n4_; have GE696 := n5_; have NB694_696 := n6_; have NB696_694 := n7_; have NB695_696 := n8_; have NB696_695 := n9_; clear n0_ n1_ n2_ n3_ n4_ n5_ n6_ n7_ n8_ n9_; clear hb hbox hg))
 (try simp only [Act.put, List.setIfInBounds_toArray, List.set_cons_zero, List.set_cons_succ])
 go_cut [19] (fun v19 wc => ∃ (kq : Nat) (x19_3 : Bool), v19 = .bool x19_3 ∧ Aside0 (spec_ValWiden.j0 kq l2 x19_3 a0_0 a0_1 a0_2 a1_0 a1_1 a1_2 = some (r1, r2, r3)) ∧ Aside0 (kq ≤ k) ∧ Aside0 (wc.heap[gb694]? = some (.cells #[.int .i64 a0_0, .int .i64 a0_1, .bool a0_2] 44 (0, 0))) ∧ Aside0 (wc.heap[gb695]? = some (.cells #[.int .i64 a1_0, .int .i64 a1_1, .bool a1_2] 44 (0, 0))) ∧ Aside0 (wc.heap[gb696]? = some (.cells #[.int .i64 0, .int .i64 0, .bool false] 44 (0, 0))) ∧ Aside0 (Below w.heap.size w wc))
 case first =>
  have H := HC4.out; clear HC4; replace H := Option.bind_eq_some_iff.mp H; obtain ⟨t697, A80, H⟩ := H; (try dsimp only at H); have A8 := Aside0.mk A80; clear A80
  by_cases c9 : t697 = true
  ·
   subst c9; have H1 := ifp_ H
   clear H; have H := H1; clear H1; replace H := Option.bind_eq_some_iff.mp H; obtain ⟨t698, A100, H⟩ := H; (try dsimp only at H); have A10 := Aside0.mk A100; clear A100
   by_cases c11 : t698 = true
   ·
    subst c11; have H1 := ifp_ H
    clear H; have H := H1; clear H1; replace H := Option.bind_eq_some_iff.mp H; obtain ⟨t699, A120, H⟩ := H; (try dsimp only at H); have A12 := Aside0.mk A120; clear A120; have H' := Aside0.mk H; clear H; have hnb13 := NB694_695.out; have hnc13 := NB695_694.out; have hnb14 := NB694_696.out; have hnc14 := NB696_694.out; have hcz15_0 := cl_ (v := .int .i64 a0_0) BK694 0; have hcz15_1 := cl_ (v := .int .i64 a0_1) BK694 1; have hcz15_2 := cl_ (v := .bool a0_2) BK694 2; have hfz15_0 := blk_frozen BK694.out 0; have hfz15_1 := blk_frozen BK694.out 1; have hfz15_2 := blk_frozen BK694.out 2
    go_wp2_with (first | ((with_reducible refine gate_callee (f := 41) rfl ?_); refine gl_ 8 Tryd.func41 #[.agg #[.int .i64 a0_0, .int .i64 a0_1, .bool a0_2]] (h := ?_); (with_reducible refine (spec_ValOk.calls a0_0 a0_1 a0_2 true _ A8.out).mono ?_); rintro e w16 ⟨rfl, hb⟩; refine ⟨_, rfl, ?_⟩; replace BK694 := bb_ BK694 hb; replace BK695 := bb_ BK695 hb; replace BK696 := bb_ BK696 hb; replace HB := hb3_ HB hb GE694 GE695 GE696; (try clear hb); have hnb17 := NB695_696.out; have hnc17 := NB696_695.out; have hcz18_0 := cl_ (v := .int .i64 a1_0) BK695 0; have hcz18_1 := cl_ (v := .int .i64 a1_1) BK695 1; have hcz18_2 := cl_ (v := .bool a1_2) BK695 2; have hfz18_0 := blk_frozen BK695.out 0; have hfz18_1 := blk_frozen BK695.out 1; have hfz18_2 := blk_frozen BK695.out 2) | (go_at_call 41; (with_reducible refine (spec_ValOk.calls a1_0 a1_1 a1_2 true _ A10.out).mono ?_); rintro e w19 ⟨rfl, hb⟩; replace BK694 := bb_ BK694 hb; replace BK695 := bb_ BK695 hb; replace BK696 := bb_ BK696 hb; replace HB := hb3_ HB hb GE694 GE695 GE696; (try clear hb)) | (go_at_call 61; (with_reducible refine (spec_l06Steps.calls k _ _ l2 t699 _ ?side1 ?side2 A12.out).mono ?_); (case side1 => exact sq_c (Kd.C_below HR2.out HB.out)); (case side2 => exact HC2.out); rintro e w' ⟨rfl, ⟨nd, rfl⟩⟩))
    go_meet
    case rel => exact ⟨_, (!t699), (by first | rfl | (simp; done) | (simp [*]; done)), H', ⟨by first | omega | exact Nat.le_refl _⟩, bk_ BK694, bk_ BK695, bk_ BK696, ⟨by repeat (first | (with_reducible first | exact HB.out | apply below_alloc | apply pw_below_drewN | apply below_drew1 | refine below_set ?_ GE694.out | refine below_set ?_ GE695.out | refine below_set ?_ GE696.out) | exact HB.out)⟩⟩
   ·
    replace c11 := Bool.eq_false_iff.mpr c11; subst c11; have H1 := ifn_ H
    clear H; have H := H1; clear H1; have H' := Aside0.mk H; clear H; have hnb20 := NB694_695.out; have hnc20 := NB695_694.out; have hnb21 := NB694_696.out; have hnc21 := NB696_694.out; have hcz22_0 := cl_ (v := .int .i64 a0_0) BK694 0; have hcz22_1 := cl_ (v := .int .i64 a0_1) BK694 1; have hcz22_2 := cl_ (v := .bool a0_2) BK694 2; have hfz22_0 := blk_frozen BK694.out 0; have hfz22_1 := blk_frozen BK694.out 1; have hfz22_2 := blk_frozen BK694.out 2
    go_wp2_with (first | ((with_reducible refine gate_callee (f := 41) rfl ?_); refine gl_ 8 Tryd.func41 #[.agg #[.int .i64 a0_0, .int .i64 a0_1, .bool a0_2]] (h := ?_); (with_reducible refine (spec_ValOk.calls a0_0 a0_1 a0_2 true _ A8.out).mono ?_); rintro e w23 ⟨rfl, hb⟩; refine ⟨_, rfl, ?_⟩; replace BK694 := bb_ BK694 hb; replace BK695 := bb_ BK695 hb; replace BK696 := bb_ BK696 hb; replace HB := hb3_ HB hb GE694 GE695 GE696; (try clear hb); have hnb24 := NB695_696.out; have hnc24 := NB696_695.out; have hcz25_0 := cl_ (v := .int .i64 a1_0) BK695 0; have hcz25_1 := cl_ (v := .int .i64 a1_1) BK695 1; have hcz25_2 := cl_ (v := .bool a1_2) BK695 2; have hfz25_0 := blk_frozen BK695.out 0; have hfz25_1 := blk_frozen BK695.out 1; have hfz25_2 := blk_frozen BK695.out 2) | (go_at_call 41; (with_reducible refine (spec_ValOk.calls a1_0 a1_1 a1_2 false _ A10.out).mono ?_); rintro e w26 ⟨rfl, hb⟩; replace BK694 := bb_ BK694 hb; replace BK695 := bb_ BK695 hb; replace BK696 := bb_ BK696 hb; replace HB := hb3_ HB hb GE694 GE695 GE696; (try clear hb)))
    go_meet
    case rel => exact ⟨_, (true), (by first | rfl | (simp; done) | (simp [*]; done)), H', ⟨by first | omega | exact Nat.le_refl _⟩, bk_ BK694, bk_ BK695, bk_ BK696, ⟨by repeat (first | (with_reducible first | exact HB.out | apply below_alloc | apply pw_below_drewN | apply below_drew1 | refine below_set ?_ GE694.out | refine below_set ?_ GE695.out | refine below_set ?_ GE696.out) | exact HB.out)⟩⟩
  ·
   replace c9 := Bool.eq_false_iff.mpr c9; subst c9; have H1 := ifn_ H
   clear H; have H := H1; clear H1; have H' := Aside0.mk H; clear H; have hnb27 := NB694_695.out; have hnc27 := NB695_694.out; have hnb28 := NB694_696.out; have hnc28 := NB696_694.out; have hcz29_0 := cl_ (v := .int .i64 a0_0) BK694 0; have hcz29_1 := cl_ (v := .int .i64 a0_1) BK694 1; have hcz29_2 := cl_ (v := .bool a0_2) BK694 2; have hfz29_0 := blk_frozen BK694.out 0; have hfz29_1 := blk_frozen BK694.out 1; have hfz29_2 := blk_frozen BK694.out 2
   go_wp2_with (first | ((with_reducible refine gate_callee (f := 41) rfl ?_); refine gl_ 8 Tryd.func41 #[.agg #[.int .i64 a0_0, .int .i64 a0_1, .bool a0_2]] (h := ?_); (with_reducible refine (spec_ValOk.calls a0_0 a0_1 a0_2 false _ A8.out).mono ?_); rintro e w30 ⟨rfl, hb⟩; refine ⟨_, rfl, ?_⟩; replace BK694 := bb_ BK694 hb; replace BK695 := bb_ BK695 hb; replace BK696 := bb_ BK696 hb; replace HB := hb3_ HB hb GE694 GE695 GE696; (try clear hb)))
   go_meet
   case rel => exact ⟨_, (true), (by first | rfl | (simp; done) | (simp [*]; done)), H', ⟨by first | omega | exact Nat.le_refl _⟩, bk_ BK694, bk_ BK695, bk_ BK696, ⟨by repeat (first | (with_reducible first | exact HB.out | apply below_alloc | apply pw_below_drewN | apply below_drew1 | refine below_set ?_ GE694.out | refine below_set ?_ GE695.out | refine below_set ?_ GE696.out) | exact HB.out)⟩⟩
 case rest =>
  clear HC4
  try clear c1
  try clear c2
  try clear p2
  try clear c3
  try clear c4
  try clear c9
  try clear c11
  try clear c13
  try clear c14
  try clear c17
  try clear c20
  try clear c21
  try clear c24
  try clear c27
  try clear c28
  try clear hcz15_0
  try clear hcz15_1
  try clear hcz15_2
  try clear hcz18_0
  try clear hcz18_1
  try clear hcz18_2
  try clear hcz22_0
  try clear hcz22_1
  try clear hcz22_2
  try clear hcz25_0
  try clear hcz25_1
  try clear hcz25_2
  try clear hcz29_0
  try clear hcz29_1
  try clear hcz29_2
  try clear hfz15_0
  try clear hfz15_1
  try clear hfz15_2
  try clear hfz18_0
  try clear hfz18_1
  try clear hfz18_2
  try clear hfz22_0
  try clear hfz22_1
  try clear hfz22_2
  try clear hfz25_0
  try clear hfz25_1
  try clear hfz25_2
  try clear hfz29_0
  try clear hfz29_1
  try clear hfz29_2
  obtain ⟨kq, x19_3, rfl, HA, HJ3, BK694, BK695, BK696, HB⟩ := hcut; cases kq with
  | zero => exact absurd HA.out (by simp [spec_ValWiden.j0])
  | succ kj3 =>
   have H := HA.out; clear HA; simp only [spec_ValWiden.j0] at H
   by_cases c31 : x19_3 = true
   ·
    subst c31; have H1 := ifp_ H
    clear H; have H := H1; clear H1; replace H := Option.bind_eq_some_iff.mp H; obtain ⟨⟨t700, t701, t702⟩, A320, H⟩ := H; replace H : (some (t700, t701, t702)) = some (r1, r2, r3) := H; have A32 := Aside0.mk A320; clear A320; simp only [Option.some.injEq, Prod.mk.injEq] at H; obtain ⟨rfl, rfl, rfl⟩ := H
    go_wp2_with (first | ((with_reducible refine gate_callee (f := 70) rfl ?_); refine gl_ 20 Tryd.func70 #[] (h := ?_); (with_reducible refine (spec_l09None.calls  t700 t701 t702 _ A32.out).mono ?_); rintro e w33 ⟨rfl, hb⟩; refine ⟨_, rfl, ?_⟩; replace BK696 := bb_ BK696 hb; replace HB := hb1_ HB hb GE696; (try clear hb); have hcz34_0 := cl_ (v := .int .i64 0) BK696 0; have hcz34_1 := cl_ (v := .int .i64 0) BK696 1; have hcz34_2 := cl_ (v := .bool false) BK696 2; have hfz34_0 := blk_frozen BK696.out 0; have hfz34_1 := blk_frozen BK696.out 1; have hfz34_2 := blk_frozen BK696.out 2))
    refine bodyPost_ret (results_cell_row rfl _ _ gb696 44 #[.int .i64 t700, .int .i64 t701, .bool t702] (0, 0) _ rfl (bp_ BK696) Tryd.underlying44 rfl (by kernel_rfl)) rfl ?_; exact ⟨by first | rfl | (simp [errW_none, errW_some] <;> rfl) | (simp [*, errW_none, errW_some] <;> rfl), by repeat (first | (with_reducible first | exact HB.out | apply below_alloc | apply pw_below_drewN | apply below_drew1 | refine below_set ?_ GE696.out) | exact HB.out)⟩
   ·
    replace c31 := Bool.eq_false_iff.mpr c31; subst c31; have H1 := ifn_ H
    clear H; have H := H1; clear H1; replace H := Option.bind_eq_some_iff.mp H; obtain ⟨⟨t703, t704⟩, A350, H⟩ := H; (try dsimp only at H); have A35 := Aside0.mk A350; clear A350
    by_cases c36 : a0_2 = true
    ·
     subst c36; have H1 := ifp_ H
     clear H; have H := H1; clear H1; simp only [Option.some.injEq, Prod.mk.injEq] at H; obtain ⟨rfl, rfl, rfl⟩ := H
     try go_wp2
     replace BK694 := bd_ BK694; replace BK695 := bd_ BK695; replace BK696 := bd_ BK696; replace HB := hd_ HB; refine start_ (n := 14) (S := fun w' => w'.cell? ⟨gb694, 0, none⟩ = some (.int .i64 a0_0) ∧ w'.cell? ⟨gb694, 1, none⟩ = some (.int .i64 a0_1) ∧ w'.cell? ⟨gb694, 2, none⟩ = some (.bool true) ∧ w'.cell? ⟨gb695, 0, none⟩ = some (.int .i64 a1_0) ∧ w'.cell? ⟨gb695, 1, none⟩ = some (.int .i64 a1_1) ∧ w'.cell? ⟨gb695, 2, none⟩ = some (.bool a1_2)) (ds := []) spec_ValWiden.b0_ (by kernel_rfl) rfl rfl ⟨cl_ BK694 0, cl_ BK694 1, cl_ BK694 2, cl_ BK695 0, cl_ BK695 1, cl_ BK695 2⟩ (fun hHeld => ?_); refine with_tabW spec_ValWiden.tab3 spec_ValWiden.bits3 (fun HT_ HW_ => ?_); generalize wc.drew = w37 at BK694 BK695 BK696 HB hHeld ⊢; refine pure_y 0 (some 21) spec_ValWiden.b1_ (any_of HT_.out (by kernel_rfl)) (h := ?_)
     refine pure_y 2 (some 23) spec_ValWiden.b2_ (any_of HT_.out (by kernel_rfl)) (h := ?_)
     refine pure_y 4 (some 25) spec_ValWiden.b3_ (any_of HT_.out (by kernel_rfl)) (h := ?_)
     refine pure_y 6 (some 27) spec_ValWiden.b4_ (any_of HT_.out (by kernel_rfl)) (h := ?_)
     refine take_y 1 (some 22) spec_ValWiden.b5_ rfl (take_ofW HT_.out HW_.out (by kernel_rfl)) hHeld (Or.inl ⟨by rfl, (by rintro w' ⟨s0, s1, s2, s3, s4, s5⟩; go_simp; with_reducible rfl)⟩) (h := ?_)
     refine take_y 3 (some 24) spec_ValWiden.b6_ rfl (take_ofW HT_.out HW_.out (by kernel_rfl)) hHeld (Or.inl ⟨by rfl, (by rintro w' ⟨s0, s1, s2, s3, s4, s5⟩; go_simp; with_reducible rfl)⟩) (h := ?_)
     refine take_y 7 (some 28) spec_ValWiden.b7_ rfl (take_ofW HT_.out HW_.out (by kernel_rfl)) hHeld (Or.inl ⟨by rfl, (by rintro w' ⟨s0, s1, s2, s3, s4, s5⟩; go_simp; with_reducible rfl)⟩) (h := ?_)
     refine one_ (i := 5) (N := some 26) spec_ValWiden.b8_ rfl rfl (one_of HT_.out (by kernel_rfl)) (by decide) (fun K hK => ?_); refine gs_ Tryd.func27 #[.agg #[.int .i64 a0_0, .int .i64 a0_1], .agg #[.int .i64 a1_0, .int .i64 a1_1], .slice A2 l2.length c2] (h := ?_); with_reducible refine (spec_RangeWiden.calls kj3 a0_0 a0_1 a1_0 a1_1 _ _ l2 t703 t704 _ ?side1 ?side2 A35.out).mono ?_
     (case side1 => exact sq_c (Kd.C_below HR2.out HB.out))
     (case side2 => exact HC2.out)
     rintro e w38 ⟨rfl, hb⟩; refine ⟨_, rfl, ?_⟩; replace BK694 := bb_ BK694 hb; replace BK695 := bb_ BK695 hb; replace BK696 := bb_ BK696 hb; replace HB := hb3_ HB hb GE694 GE695 GE696
     (try clear hb)
     (try clear hb2)
     (try clear hk)
     (try clear hi)
     refine hK.out _ _ ⟨cl_ BK694 0, cl_ BK694 1, cl_ BK694 2, cl_ BK695 0, cl_ BK695 1, cl_ BK695 2⟩ (fun hHeld => ?_); clear hK K; refine norm_y (h := ?_)
     refine pure_y 8 (some 29) spec_ValWiden.b9_ (any_of HT_.out (by kernel_rfl)) (h := ?_)
     refine pure_y 9 (some 30) spec_ValWiden.b10_ (any_of HT_.out (by kernel_rfl)) (h := ?_)
     refine take_y 10 (some 31) spec_ValWiden.b11_ rfl (take_ofW HT_.out HW_.out (by kernel_rfl)) hHeld (Or.inl ⟨by rfl, (by rintro w' ⟨s0, s1, s2, s3, s4, s5⟩; go_simp; with_reducible rfl)⟩) (h := ?_)
     refine pure_y 11 (some 32) spec_ValWiden.b12_ (any_of HT_.out (by kernel_rfl)) (h := ?_)
     refine pure_y 12 (some 33) spec_ValWiden.b13_ (any_of HT_.out (by kernel_rfl)) (h := ?_)
     refine one_ (i := 13) (N := none) spec_ValWiden.b14_ rfl rfl (one_of HT_.out (by kernel_rfl)) (by decide) (fun K hK => ?_); have hs39 : w38.cell? ⟨gb696, 0, none⟩ = some (.int .i64 0) := (blk_cell BK696.out 0).trans rfl; have hfs39 := blk_frozen BK696.out 0; have hns39_0 := NB694_696.out; have hns39_1 := NB695_696.out; have hms39_0 := NB696_694.out; have hms39_1 := NB696_695.out; have hs40 : w38.cell? ⟨gb696, 1, none⟩ = some (.int .i64 0) := (blk_cell BK696.out 1).trans rfl; have hfs40 := blk_frozen BK696.out 1; have hns40_0 := NB694_696.out; have hns40_1 := NB695_696.out; have hms40_0 := NB696_694.out; have hms40_1 := NB696_695.out; have hs41 : w38.cell? ⟨gb696, 2, none⟩ = some (.bool false) := (blk_cell BK696.out 2).trans rfl; have hfs41 := blk_frozen BK696.out 2; have hns41_0 := NB694_696.out; have hns41_1 := NB695_696.out; have hms41_0 := NB696_694.out; have hms41_1 := NB696_695.out; refine skip_ (w1 := ?_) (by rfl) rfl ?_ ?_; rotate_left
     ·
      go_simp; rfl
     refine hK.out _ _ ⟨((cell_far (p := ⟨gb696, _, none⟩) NB694_696.out _).trans (((cell_far (p := ⟨gb696, _, none⟩) NB694_696.out _).trans (((cell_far (p := ⟨gb696, _, none⟩) NB694_696.out _).trans (hHeld.1)))))), ((cell_far (p := ⟨gb696, _, none⟩) NB694_696.out _).trans (((cell_far (p := ⟨gb696, _, none⟩) NB694_696.out _).trans (((cell_far (p := ⟨gb696, _, none⟩) NB694_696.out _).trans (hHeld.2.1)))))), ((cell_far (p := ⟨gb696, _, none⟩) NB694_696.out _).trans (((cell_far (p := ⟨gb696, _, none⟩) NB694_696.out _).trans (((cell_far (p := ⟨gb696, _, none⟩) NB694_696.out _).trans (hHeld.2.2.1)))))), ((cell_far (p := ⟨gb696, _, none⟩) NB695_696.out _).trans (((cell_far (p := ⟨gb696, _, none⟩) NB695_696.out _).trans (((cell_far (p := ⟨gb696, _, none⟩) NB695_696.out _).trans (hHeld.2.2.2.1)))))), ((cell_far (p := ⟨gb696, _, none⟩) NB695_696.out _).trans (((cell_far (p := ⟨gb696, _, none⟩) NB695_696.out _).trans (((cell_far (p := ⟨gb696, _, none⟩) NB695_696.out _).trans (hHeld.2.2.2.2.1)))))), ((cell_far (p := ⟨gb696, _, none⟩) NB695_696.out _).trans (((cell_far (p := ⟨gb696, _, none⟩) NB695_696.out _).trans (((cell_far (p := ⟨gb696, _, none⟩) NB695_696.out _).trans (hHeld.2.2.2.2.2))))))⟩ (fun hHeld => ?_); clear hK K; refine done_ (done_of HT_.out (by kernel_rfl)) ?_
     try go_wp2
     refine bodyPost_ret (results_cell_row rfl _ _ gb696 44 #[.int .i64 t703, .int .i64 t704, .bool a1_2] (0, 0) _ rfl (bp_ BK696) Tryd.underlying44 rfl (by kernel_rfl)) rfl ?_; exact ⟨by first | rfl | (simp [errW_none, errW_some] <;> rfl) | (simp [*, errW_none, errW_some] <;> rfl), by repeat (first | (with_reducible first | exact HB.out | apply below_alloc | apply pw_below_drewN | apply below_drew1 | refine below_set ?_ GE694.out | refine below_set ?_ GE695.out | refine below_set ?_ GE696.out) | exact HB.out)⟩
    ·
     replace c36 := Bool.eq_false_iff.mpr c36; subst c36; have H1 := ifn_ H
     clear H; have H := H1; clear H1; simp only [Option.some.injEq, Prod.mk.injEq] at H; obtain ⟨rfl, rfl, rfl⟩ := H
     try go_wp2
     replace BK694 := bd_ BK694; replace BK695 := bd_ BK695; replace BK696 := bd_ BK696; replace HB := hd_ HB; refine start_ (n := 14) (S := fun w' => w'.cell? ⟨gb694, 0, none⟩ = some (.int .i64 a0_0) ∧ w'.cell? ⟨gb694, 1, none⟩ = some (.int .i64 a0_1) ∧ w'.cell? ⟨gb694, 2, none⟩ = some (.bool false) ∧ w'.cell? ⟨gb695, 0, none⟩ = some (.int .i64 a1_0) ∧ w'.cell? ⟨gb695, 1, none⟩ = some (.int .i64 a1_1) ∧ w'.cell? ⟨gb695, 2, none⟩ = some (.bool a1_2)) (ds := []) spec_ValWiden.b0_ (by kernel_rfl) rfl rfl ⟨cl_ BK694 0, cl_ BK694 1, cl_ BK694 2, cl_ BK695 0, cl_ BK695 1, cl_ BK695 2⟩ (fun hHeld => ?_); refine with_tabW spec_ValWiden.tab3 spec_ValWiden.bits3 (fun HT_ HW_ => ?_); generalize wc.drew = w42 at BK694 BK695 BK696 HB hHeld ⊢; refine pure_y 0 (some 21) spec_ValWiden.b1_ (any_of HT_.out (by kernel_rfl)) (h := ?_)
     refine pure_y 2 (some 23) spec_ValWiden.b2_ (any_of HT_.out (by kernel_rfl)) (h := ?_)
     refine pure_y 4 (some 25) spec_ValWiden.b3_ (any_of HT_.out (by kernel_rfl)) (h := ?_)
     refine pure_y 6 (some 27) spec_ValWiden.b4_ (any_of HT_.out (by kernel_rfl)) (h := ?_)
     refine take_y 1 (some 22) spec_ValWiden.b5_ rfl (take_ofW HT_.out HW_.out (by kernel_rfl)) hHeld (Or.inl ⟨by rfl, (by rintro w' ⟨s0, s1, s2, s3, s4, s5⟩; go_simp; with_reducible rfl)⟩) (h := ?_)
     refine take_y 3 (some 24) spec_ValWiden.b6_ rfl (take_ofW HT_.out HW_.out (by kernel_rfl)) hHeld (Or.inl ⟨by rfl, (by rintro w' ⟨s0, s1, s2, s3, s4, s5⟩; go_simp; with_reducible rfl)⟩) (h := ?_)
     refine take_y 7 (some 28) spec_ValWiden.b7_ rfl (take_ofW HT_.out HW_.out (by kernel_rfl)) hHeld (Or.inl ⟨by rfl, (by rintro w' ⟨s0, s1, s2, s3, s4, s5⟩; go_simp; with_reducible rfl)⟩) (h := ?_)
     refine one_ (i := 5) (N := some 26) spec_ValWiden.b8_ rfl rfl (one_of HT_.out (by kernel_rfl)) (by decide) (fun K hK => ?_); refine gs_ Tryd.func27 #[.agg #[.int .i64 a0_0, .int .i64 a0_1], .agg #[.int .i64 a1_0, .int .i64 a1_1], .slice A2 l2.length c2] (h := ?_); with_reducible refine (spec_RangeWiden.calls kj3 a0_0 a0_1 a1_0 a1_1 _ _ l2 t703 t704 _ ?side1 ?side2 A35.out).mono ?_
     (case side1 => exact sq_c (Kd.C_below HR2.out HB.out))
     (case side2 => exact HC2.out)
     rintro e w43 ⟨rfl, hb⟩; refine ⟨_, rfl, ?_⟩; replace BK694 := bb_ BK694 hb; replace BK695 := bb_ BK695 hb; replace BK696 := bb_ BK696 hb; replace HB := hb3_ HB hb GE694 GE695 GE696
     (try clear hb)
     (try clear hb2)
     (try clear hk)
     (try clear hi)
     refine hK.out _ _ ⟨cl_ BK694 0, cl_ BK694 1, cl_ BK694 2, cl_ BK695 0, cl_ BK695 1, cl_ BK695 2⟩ (fun hHeld => ?_); clear hK K; refine norm_y (h := ?_)
     refine pure_y 8 (some 29) spec_ValWiden.b9_ (any_of HT_.out (by kernel_rfl)) (h := ?_)
     refine pure_n 9 (some 30) spec_ValWiden.b10_ (any_of HT_.out (by kernel_rfl)) (h := ?_)
     refine pure_n 10 (some 31) spec_ValWiden.b11_ (any_of HT_.out (by kernel_rfl)) (h := ?_)
     refine pure_y 11 (some 32) spec_ValWiden.b12_ (any_of HT_.out (by kernel_rfl)) (h := ?_)
     refine pure_y 12 (some 33) spec_ValWiden.b13_ (any_of HT_.out (by kernel_rfl)) (h := ?_)
     refine one_ (i := 13) (N := none) spec_ValWiden.b14_ rfl rfl (one_of HT_.out (by kernel_rfl)) (by decide) (fun K hK => ?_); have hs44 : w43.cell? ⟨gb696, 0, none⟩ = some (.int .i64 0) := (blk_cell BK696.out 0).trans rfl; have hfs44 := blk_frozen BK696.out 0; have hns44_0 := NB694_696.out; have hns44_1 := NB695_696.out; have hms44_0 := NB696_694.out; have hms44_1 := NB696_695.out; have hs45 : w43.cell? ⟨gb696, 1, none⟩ = some (.int .i64 0) := (blk_cell BK696.out 1).trans rfl; have hfs45 := blk_frozen BK696.out 1; have hns45_0 := NB694_696.out; have hns45_1 := NB695_696.out; have hms45_0 := NB696_694.out; have hms45_1 := NB696_695.out; have hs46 : w43.cell? ⟨gb696, 2, none⟩ = some (.bool false) := (blk_cell BK696.out 2).trans rfl; have hfs46 := blk_frozen BK696.out 2; have hns46_0 := NB694_696.out; have hns46_1 := NB695_696.out; have hms46_0 := NB696_694.out; have hms46_1 := NB696_695.out; refine skip_ (w1 := ?_) (by rfl) rfl ?_ ?_; rotate_left
     ·
      go_simp; rfl
     refine hK.out _ _ ⟨((cell_far (p := ⟨gb696, _, none⟩) NB694_696.out _).trans (((cell_far (p := ⟨gb696, _, none⟩) NB694_696.out _).trans (((cell_far (p := ⟨gb696, _, none⟩) NB694_696.out _).trans (hHeld.1)))))), ((cell_far (p := ⟨gb696, _, none⟩) NB694_696.out _).trans (((cell_far (p := ⟨gb696, _, none⟩) NB694_696.out _).trans (((cell_far (p := ⟨gb696, _, none⟩) NB694_696.out _).trans (hHeld.2.1)))))), ((cell_far (p := ⟨gb696, _, none⟩) NB694_696.out _).trans (((cell_far (p := ⟨gb696, _, none⟩) NB694_696.out _).trans (((cell_far (p := ⟨gb696, _, none⟩) NB694_696.out _).trans (hHeld.2.2.1)))))), ((cell_far (p := ⟨gb696, _, none⟩) NB695_696.out _).trans (((cell_far (p := ⟨gb696, _, none⟩) NB695_696.out _).trans (((cell_far (p := ⟨gb696, _, none⟩) NB695_696.out _).trans (hHeld.2.2.2.1)))))), ((cell_far (p := ⟨gb696, _, none⟩) NB695_696.out _).trans (((cell_far (p := ⟨gb696, _, none⟩) NB695_696.out _).trans (((cell_far (p := ⟨gb696, _, none⟩) NB695_696.out _).trans (hHeld.2.2.2.2.1)))))), ((cell_far (p := ⟨gb696, _, none⟩) NB695_696.out _).trans (((cell_far (p := ⟨gb696, _, none⟩) NB695_696.out _).trans (((cell_far (p := ⟨gb696, _, none⟩) NB695_696.out _).trans (hHeld.2.2.2.2.2))))))⟩ (fun hHeld => ?_); clear hK K; refine done_ (done_of HT_.out (by kernel_rfl)) ?_
     try go_wp2
     refine bodyPost_ret (results_cell_row rfl _ _ gb696 44 #[.int .i64 t703, .int .i64 t704, .bool false] (0, 0) _ rfl (bp_ BK696) Tryd.underlying44 rfl (by kernel_rfl)) rfl ?_; exact ⟨by first | rfl | (simp [errW_none, errW_some] <;> rfl) | (simp [*, errW_none, errW_some] <;> rfl), by repeat (first | (with_reducible first | exact HB.out | apply below_alloc | apply pw_below_drewN | apply below_drew1 | refine below_set ?_ GE694.out | refine below_set ?_ GE695.out | refine below_set ?_ GE696.out) | exact HB.out)⟩

end Go.Proofs.YtmibaaicadgchaaDoor.Q
