/- Functions of the translation as Lean functions, each with a proof that a call answers so; out of the seat, by this claim's own program prt.py. -/
import Derived.Test.YtmibaaicadgchaaDoorWRepsOne
import Derived.Test.YtmibaaicadgchaaDoorQx0
import Derived.Test.YtmibaaicadgchaaDoorQx3
import Derived.Test.YtmibaaicadgchaaDoorQx5
import Derived.Test.YtmibaaicadgchaaDoorQx6
import Derived.Test.YtmibaaicadgchaaDoorQx24
import Derived.Test.YtmibaaicadgchaaDoorQStep
namespace Go.Proofs.YtmibaaicadgchaaDoor.Q
open Go.RowKit Go.Proofs.YtmibaaicadgchaaDoorW.PrintWords Go.Proofs.YtmibaaicadgchaaDoorW.PrintLast Go.Proofs.YtmibaaicadgchaaDoorW.PrintMore
attribute [local go_sem] max2_int min2_int max_two min_two max_three min_three max_four min_four   -- for this text's walks alone
set_option linter.unusedVariables false
set_option linter.unusedSimpArgs false

/-! ### spec_RangeWiden: function 27 -/
mutual
def spec_RangeWiden.j0 : Nat → List Int → Bool → Int → Int → Int → Int → Option (Int × Int)
 | 0, _, _, _, _, _, _ => none
 | k + 1, x2, x11, x484000, x484001, x485000, x485001 => if x11 = true then ((spec_l06None.f).bind fun bt489 => (some (bt489.1, bt489.2))) else ((spec_l06Is.f x484000 x484001).bind fun t491 => (if t491 = true then ((spec_l06Is.f x485000 x485001).bind fun t492 => (if t492 = true then (if x485000 < x484000 then (spec_RangeWiden.l0 k x2 (-1000000) 0 x484000 x484001 x485000 x485001) else (spec_RangeWiden.j2 k x2 x484000 x484000 x484001 x485000 x485001)) else (some (x484000, x484001)))) else (some (x485000, x485001))))
def spec_RangeWiden.j2 : Nat → List Int → Int → Int → Int → Int → Int → Option (Int × Int)
 | 0, _, _, _, _, _, _ => none
 | k + 1, x2, x7, x484000, x484001, x485000, x485001 => if x485001 > x484001 then (spec_RangeWiden.l1 k x2 x7 1000000 (wrap64 ((x2.length : Int) - 1)) x485000 x485001) else ((spec_l06Make.f x7 x484001).bind fun bt499 => (some (bt499.1, bt499.2)))
def spec_RangeWiden.l1 : Nat → List Int → Int → Int → Int → Int → Int → Option (Int × Int)
 | 0, _, _, _, _, _, _ => none
 | k + 1, x2, x7, x9, x10, x485000, x485001 => if x10 ≥ 0 then (if 0 ≤ x10 then (if x10 < (x2.length : Int) then (if (rd x2 x10) ≥ x485001 then (spec_RangeWiden.l1 k x2 x7 (rd x2 x10) (wrap64 (x10 - 1)) x485000 x485001) else (spec_RangeWiden.l1 k x2 x7 x9 (wrap64 (x10 - 1)) x485000 x485001)) else (none)) else (none)) else ((spec_l06Make.f x7 x9).bind fun bt497 => (some (bt497.1, bt497.2)))
def spec_RangeWiden.l0 : Nat → List Int → Int → Int → Int → Int → Int → Int → Option (Int × Int)
 | 0, _, _, _, _, _, _, _ => none
 | k + 1, x2, x7, x8, x484000, x484001, x485000, x485001 => if x8 < (x2.length : Int) then (if 0 ≤ x8 then (if (rd x2 x8) ≤ x485000 then (spec_RangeWiden.l0 k x2 (rd x2 x8) (wrap64 (x8 + 1)) x484000 x484001 x485000 x485001) else (spec_RangeWiden.l0 k x2 x7 (wrap64 (x8 + 1)) x484000 x484001 x485000 x485001)) else (none)) else (spec_RangeWiden.j2 k x2 x7 x484000 x484001 x485000 x485001)
end
def spec_RangeWiden.f (k : Nat) (a0_0 : Int) (a0_1 : Int) (a1_0 : Int) (a1_1 : Int) (l2 : List Int) : Option (Int × Int) := (spec_RangeOk.f a0_0 a0_1).bind fun t486 => (if t486 = true then ((spec_RangeOk.f a1_0 a1_1).bind fun t487 => (if t487 = true then ((spec_l06Steps.f k l2).bind fun t488 => (spec_RangeWiden.j0 k l2 (!t488) a0_0 a0_1 a1_0 a1_1)) else (spec_RangeWiden.j0 k l2 true a0_0 a0_1 a1_0 a1_1))) else (spec_RangeWiden.j0 k l2 true a0_0 a0_1 a1_0 a1_1))
theorem spec_RangeWiden.mono_l : ∀ k, (∀ y0 y1 y2 y3 y4 y5, LeO (spec_RangeWiden.j0 k y0 y1 y2 y3 y4 y5) (spec_RangeWiden.j0 (k + 1) y0 y1 y2 y3 y4 y5)) ∧ (∀ y0 y1 y2 y3 y4 y5, LeO (spec_RangeWiden.j2 k y0 y1 y2 y3 y4 y5) (spec_RangeWiden.j2 (k + 1) y0 y1 y2 y3 y4 y5)) ∧ (∀ y0 y1 y2 y3 y4 y5, LeO (spec_RangeWiden.l1 k y0 y1 y2 y3 y4 y5) (spec_RangeWiden.l1 (k + 1) y0 y1 y2 y3 y4 y5)) ∧ (∀ y0 y1 y2 y3 y4 y5 y6, LeO (spec_RangeWiden.l0 k y0 y1 y2 y3 y4 y5 y6) (spec_RangeWiden.l0 (k + 1) y0 y1 y2 y3 y4 y5 y6))
 | 0 => ⟨fun _ _ _ _ _ _ r h => by simp [spec_RangeWiden.j0] at h, fun _ _ _ _ _ _ r h => by simp [spec_RangeWiden.j2] at h, fun _ _ _ _ _ _ r h => by simp [spec_RangeWiden.l1] at h, fun _ _ _ _ _ _ _ r h => by simp [spec_RangeWiden.l0] at h⟩
 | k + 1 => by
  obtain ⟨ih0, ih1, ih2, ih3⟩ := spec_RangeWiden.mono_l k; refine ⟨?_, ?_, ?_, ?_⟩
  ·
   intro y0 y1 y2 y3 y4 y5; unfold spec_RangeWiden.j0
   repeat' first
   | (with_reducible exact ih0 _ _ _ _ _ _)
   | (with_reducible exact ih1 _ _ _ _ _ _)
   | (with_reducible exact ih2 _ _ _ _ _ _)
   | (with_reducible exact ih3 _ _ _ _ _ _ _)
   | (with_reducible exact spec_l06Steps.mono _ _)
   | (with_reducible exact LeO.refl _)
   | (with_reducible exact LeO.none _)
   | (with_reducible refine LeO.ite ?_ ?_)
   | (with_reducible refine LeO.bind ?_ (fun _ => ?_))
   | exact ih0 _ _ _ _ _ _
   | exact ih1 _ _ _ _ _ _
   | exact ih2 _ _ _ _ _ _
   | exact ih3 _ _ _ _ _ _ _
   | exact spec_l06Steps.mono _ _
   | exact LeO.none _
   | refine LeO.ite ?_ ?_
   | refine LeO.bind ?_ (fun _ => ?_)
  ·
   intro y0 y1 y2 y3 y4 y5; unfold spec_RangeWiden.j2
   repeat' first
   | (with_reducible exact ih0 _ _ _ _ _ _)
   | (with_reducible exact ih1 _ _ _ _ _ _)
   | (with_reducible exact ih2 _ _ _ _ _ _)
   | (with_reducible exact ih3 _ _ _ _ _ _ _)
   | (with_reducible exact spec_l06Steps.mono _ _)
   | (with_reducible exact LeO.refl _)
   | (with_reducible exact LeO.none _)
   | (with_reducible refine LeO.ite ?_ ?_)
   | (with_reducible refine LeO.bind ?_ (fun _ => ?_))
   | exact ih0 _ _ _ _ _ _
   | exact ih1 _ _ _ _ _ _
   | exact ih2 _ _ _ _ _ _
   | exact ih3 _ _ _ _ _ _ _
   | exact spec_l06Steps.mono _ _
   | exact LeO.none _
   | refine LeO.ite ?_ ?_
   | refine LeO.bind ?_ (fun _ => ?_)
  ·
   intro y0 y1 y2 y3 y4 y5; unfold spec_RangeWiden.l1
   repeat' first
   | (with_reducible exact ih0 _ _ _ _ _ _)
   | (with_reducible exact ih1 _ _ _ _ _ _)
   | (with_reducible exact ih2 _ _ _ _ _ _)
   | (with_reducible exact ih3 _ _ _ _ _ _ _)
   | (with_reducible exact spec_l06Steps.mono _ _)
   | (with_reducible exact LeO.refl _)
   | (with_reducible exact LeO.none _)
   | (with_reducible refine LeO.ite ?_ ?_)
   | (with_reducible refine LeO.bind ?_ (fun _ => ?_))
   | exact ih0 _ _ _ _ _ _
   | exact ih1 _ _ _ _ _ _
   | exact ih2 _ _ _ _ _ _
   | exact ih3 _ _ _ _ _ _ _
   | exact spec_l06Steps.mono _ _
   | exact LeO.none _
   | refine LeO.ite ?_ ?_
   | refine LeO.bind ?_ (fun _ => ?_)
  ·
   intro y0 y1 y2 y3 y4 y5 y6; unfold spec_RangeWiden.l0
   repeat' first
   | (with_reducible exact ih0 _ _ _ _ _ _)
   | (with_reducible exact ih1 _ _ _ _ _ _)
   | (with_reducible exact ih2 _ _ _ _ _ _)
   | (with_reducible exact ih3 _ _ _ _ _ _ _)
   | (with_reducible exact spec_l06Steps.mono _ _)
   | (with_reducible exact LeO.refl _)
   | (with_reducible exact LeO.none _)
   | (with_reducible refine LeO.ite ?_ ?_)
   | (with_reducible refine LeO.bind ?_ (fun _ => ?_))
   | exact ih0 _ _ _ _ _ _
   | exact ih1 _ _ _ _ _ _
   | exact ih2 _ _ _ _ _ _
   | exact ih3 _ _ _ _ _ _ _
   | exact spec_l06Steps.mono _ _
   | exact LeO.none _
   | refine LeO.ite ?_ ?_
   | refine LeO.bind ?_ (fun _ => ?_)
theorem spec_RangeWiden.mono : ∀ a0 a1 a2 a3 a4 k, LeO (spec_RangeWiden.f k a0 a1 a2 a3 a4) (spec_RangeWiden.f (k + 1) a0 a1 a2 a3 a4) := by
 intro a0 a1 a2 a3 a4 k; obtain ⟨ih0, ih1, ih2, ih3⟩ := spec_RangeWiden.mono_l k; unfold spec_RangeWiden.f
 repeat' first
   | (with_reducible exact ih0 _ _ _ _ _ _)
   | (with_reducible exact ih1 _ _ _ _ _ _)
   | (with_reducible exact ih2 _ _ _ _ _ _)
   | (with_reducible exact ih3 _ _ _ _ _ _ _)
   | (with_reducible exact spec_l06Steps.mono _ _)
   | (with_reducible exact LeO.refl _)
   | (with_reducible exact LeO.none _)
   | (with_reducible refine LeO.ite ?_ ?_)
   | (with_reducible refine LeO.bind ?_ (fun _ => ?_))
   | exact ih0 _ _ _ _ _ _
   | exact ih1 _ _ _ _ _ _
   | exact ih2 _ _ _ _ _ _
   | exact ih3 _ _ _ _ _ _ _
   | exact spec_l06Steps.mono _ _
   | exact LeO.none _
   | refine LeO.ite ?_ ?_
   | refine LeO.bind ?_ (fun _ => ?_)
set_option maxHeartbeats 8000000 in
set_option maxRecDepth 100000 in
theorem spec_RangeWiden.calls (k : Nat) (a0_0 : Int) (a0_1 : Int) (a1_0 : Int) (a1_1 : Int) (A2 : Option Addr) (c2 : Nat) (l2 : List Int) (r1 : Int) (r2 : Int) (w : World) (hr2 : Kd.C (Kd.int .i64) w A2 l2.length l2) (hc2 : l2.length ≤ c2) (h : spec_RangeWiden.f k a0_0 a0_1 a1_0 a1_1 l2 = some (r1, r2)) :
  Calls Tryd.prog 27 #[.agg #[.int .i64 a0_0, .int .i64 a0_1], .agg #[.int .i64 a1_0, .int .i64 a1_1], .slice A2 l2.length c2] w fun e w' => e = .returned (.agg #[.int .i64 r1, .int .i64 r2]) ∧ Below w.heap.size w w' := by
 have hu25 := Tryd.underlying25; have HR2 := Aside0.mk hr2; have HC2 := Aside0.mk hc2; clear hr2 hc2; have HB := Aside0.mk (Below.refl w.heap.size w); have H : ((spec_RangeOk.f a0_0 a0_1).bind fun t486 => (if t486 = true then ((spec_RangeOk.f a1_0 a1_1).bind fun t487 => (if t487 = true then ((spec_l06Steps.f k l2).bind fun t488 => (spec_RangeWiden.j0 k l2 (!t488) a0_0 a0_1 a1_0 a1_1)) else (spec_RangeWiden.j0 k l2 true a0_0 a0_1 a1_0 a1_1))) else (spec_RangeWiden.j0 k l2 true a0_0 a0_1 a1_0 a1_1))) = some (r1, r2) := h; clear h; have HC4 := Aside0.mk H; clear H
 go_enter Tryd.func27, Tryd.ntmps27
 go_upto_region 1 with (first | ((with_reducible refine gate_dst (N := 3) rfl ?_); refine box_y 3 #[.int .i64 a0_0, .int .i64 a0_1] 25 (h := ?_); intro gb483 hg w5 hbox hb; have n0_ := Aside0.mk (below_step (sq_below HB.out) hb); have n1_ := Aside0.mk (hbox); have n2_ := ge_ hg (below_size (sq_below HB.out)); have n3_ := ge_ hg (below_size (sq_below HB.out)); clear HB; have HB := n0_; have BK483 := n1_; have GW483 := n2_; have GE483 := n3_; clear n0_ n1_ n2_ n3_; clear hb hbox hg) | ((with_reducible refine gate_dst (N := 4) rfl ?_); refine box_y 4 #[.int .i64 a1_0, .int .i64 a1_1] 25 (h := ?_); intro gb484 hg w6 hbox hb; have n0_ := Aside0.mk (blk_below (sq_blk BK483.out) hb); have n1_ := Aside0.mk (below_step (sq_below1 HB.out GE483.out) hb); have n2_ := Aside0.mk (hbox); have n3_ := ge_ hg (below_size (sq_below1 HB.out GE483.out)); have n4_ := ge_ hg (below_size (sq_below1 HB.out GE483.out)); have n5_ := nb_ hg BK483; have n6_ := Aside0.mk (Ne.symm n5_.out); clear BK483; clear HB; have BK483 := n0_; have HB := n1_; have BK484 := n2_; have GW484 := n3_; have GE484 := n4_; have NB483_484 := n5_; have NB484_483 := n6_; clear n0_ n1_ n2_ n3_ n4_ n5_ n6_; clear hb hbox hg) | ((with_reducible refine gate_dst (N := 6) rfl ?_); refine box_y 6 #[.int .i64 0, .int .i64 0] 25 (h := ?_); intro gb485 hg w7 hbox hb; have n0_ := Aside0.mk (blk_below (sq_blk BK483.out) hb); have n1_ := Aside0.mk (blk_below (sq_blk BK484.out) hb); have n2_ := Aside0.mk (below_step (sq_below2 HB.out GE483.out GE484.out) hb); have n3_ := Aside0.mk (hbox); have n4_ := ge_ hg (below_size (sq_below2 HB.out GE483.out GE484.out)); have n5_ := ge_ hg (below_size (sq_below2 HB.out GE483.out GE484.out)); have n6_ := nb_ hg BK483; have n7_ := Aside0.mk (Ne.symm n6_.out); have n8_ := nb_ hg BK484; have n9_ := Aside0.mk (Ne.symm n8_.out); clear BK483; clear BK484; clear HB; have BK483 := n0_; have BK484 := n1_; have HB := n2_; have BK485 := n3_; have GW485 := n4_; have GE485 := n5_; have NB483_485 := n6_; have NB485_483 := n7_; have NB484_485 := n8_; have NB485_484 := n9_; clear n0_ n1_ n2_ n3_ n4_ n5_ n6_ n7_ n8_ n9_; clear hb hbox hg))
 repeat (go_quiet (first | ((with_reducible refine gate_dst (N := 3) rfl ?_); refine box_y 3 #[.int .i64 a0_0, .int .i64 a0_1] 25 (h := ?_); intro gb483 hg w5 hbox hb; have n0_ := Aside0.mk (below_step (sq_below HB.out) hb); have n1_ := Aside0.mk (hbox); have n2_ := ge_ hg (below_size (sq_below HB.out)); have n3_ := ge_ hg (below_size (sq_below HB.out)); clear HB; have HB := n0_; have BK483 := n1_; have GW483 := n2_; have GE483 := n3_; clear n0_ n1_ n2_ n3_; clear hb hbox hg) | ((with_reducible refine gate_dst (N := 4) rfl ?_); refine box_y 4 #[.int .i64 a1_0, .int .i64 a1_1] 25 (h := ?_); intro gb484 hg w6 hbox hb; have n0_ := Aside0.mk (blk_below (sq_blk BK483.out) hb); have n1_ := Aside0.mk (below_step (sq_below1 HB.out GE483.out) hb); have n2_ := Aside0.mk (hbox); have n3_ := ge_ hg (below_size (sq_below1 HB.out GE483.out)); have n4_ := ge_ hg (below_size (sq_below1 HB.out GE483.out)); have n5_ := nb_ hg BK483; have n6_ := Aside0.mk (Ne.symm n5_.out); clear BK483; clear HB; have BK483 := n0_; have HB := n1_; have BK484 := n2_; have GW484 := n3_; have GE484 := n4_; have NB483_484 := n5_; have NB484_483 := n6_; clear n0_ n1_ n2_ n3_ n4_ n5_ n6_; clear hb hbox hg) | ((with_reducible refine gate_dst (N := 6) rfl ?_); refine box_y 6 #[.int .i64 0, .int .i64 0] 25 (h := ?_); intro gb485 hg w7 hbox hb; have n0_ := Aside0.mk (blk_below (sq_blk BK483.out) hb); have n1_ := Aside0.mk (blk_below (sq_blk BK484.out) hb); have n2_ := Aside0.mk (below_step (sq_below2 HB.out GE483.out GE484.out) hb); have n3_ := Aside0.mk (hbox); have n4_ := ge_ hg (below_size (sq_below2 HB.out GE483.out GE484.out)); have n5_ := ge_ hg (below_size (sq_below2 HB.out GE483.out GE484.out)); have n6_ := nb_ hg BK483; have n7_ := Aside0.mk (Ne.symm n6_.out); have n8_ := nb_ hg BK484; have n9_ := Aside0.mk (Ne.symm n8_.out); clear BK483; clear BK484; clear HB; have BK483 := n0_; have BK484 := n1_; have HB := n2_; have BK485 := n3_; have GW485 := n4_; have GE485 := n5_; have NB483_485 := n6_; have NB485_483 := n7_; have NB484_485 := n8_; have NB485_484 := n9_; clear n0_ n1_ n2_ n3_ n4_ n5_ n6_ n7_ n8_ n9_; clear hb hbox hg)); go_upto_region 1 with (first | ((with_reducible refine gate_dst (N := 3) rfl ?_); refine box_y 3 #[.int .i64 a0_0, .int .i64 a0_1] 25 (h := ?_); intro gb483 hg w5 hbox hb; have n0_ := Aside0.mk (below_step (sq_below HB.out) hb); have n1_ := Aside0.mk (hbox); have n2_ := ge_ hg (below_size (sq_below HB.out)); have n3_ := ge_ hg (below_size (sq_below HB.out)); clear HB; have HB := n0_; have BK483 := n1_; have GW483 := n2_; have GE483 := n3_; clear n0_ n1_ n2_ n3_; clear hb hbox hg) | ((with_reducible refine gate_dst (N := 4) rfl ?_); refine box_y 4 #[.int .i64 a1_0, .int .i64 a1_1] 25 (h := ?_); intro gb484 hg w6 hbox hb; have n0_ := Aside0.mk (blk_below (sq_blk BK483.out) hb); have n1_ := Aside0.mk (below_step (sq_below1 HB.out GE483.out) hb); have n2_ := Aside0.mk (hbox); have n3_ := ge_ hg (below_size (sq_below1 HB.out GE483.out)); have n4_ := ge_ hg (below_size (sq_below1 HB.out GE483.out)); have n5_ := nb_ hg BK483; have n6_ := Aside0.mk (Ne.symm n5_.out); clear BK483; clear HB; have BK483 := n0_; have HB := n1_; have BK484 := n2_; have GW484 := n3_; have GE484 := n4_; have NB483_484 := n5_; have NB484_483 := n6_; clear n0_ n1_ n2_ n3_ n4_ n5_ n6_; clear hb hbox hg) | ((with_reducible refine gate_dst (N := 6) rfl ?_); refine box_y 6 #[.int .i64 0, .int .i64 0] 25 (h := ?_); intro gb485 hg w7 hbox hb; have n0_ := Aside0.mk (blk_below (sq_blk BK483.out) hb); have n1_ := Aside0.mk (blk_below (sq_blk BK484.out) hb); have n2_ := Aside0.mk (below_step (sq_below2 HB.out GE483.out GE484.out) hb); have n3_ := Aside0.mk (hbox); have n4_ := ge_ hg (below_size (sq_below2 HB.out GE483.out GE484.out)); have n5_ := ge_ hg (below_size (sq_below2 HB.out GE483.out GE484.out)); have n6_ := nb_ hg BK483; have n7_ := Aside0.mk (Ne.symm n6_.out); have n8_ := nb_ hg BK484; have n9_ := Aside0.mk (Ne.symm n8_.out); clear BK483; clear BK484; clear HB; have BK483 := n0_; have BK484 := n1_; have HB := n2_; have BK485 := n3_; have GW485 := n4_; have GE485 := n5_; have NB483_485 := n6_; have NB485_483 := n7_; have NB484_485 := n8_; have NB485_484 := n9_; clear n0_ n1_ n2_ n3_ n4_ n5_ n6_ n7_ n8_ n9_; clear hb hbox hg)))
 (try simp only [Act.put, List.setIfInBounds_toArray, List.set_cons_zero, List.set_cons_succ])
 go_cut [11] (fun v11 wc => ∃ (kq : Nat) (x11_3 : Bool), v11 = .bool x11_3 ∧ Aside0 (spec_RangeWiden.j0 kq l2 x11_3 a0_0 a0_1 a1_0 a1_1 = some (r1, r2)) ∧ Aside0 (kq ≤ k) ∧ Aside0 (wc.heap[gb483]? = some (.cells #[.int .i64 a0_0, .int .i64 a0_1] 25 (0, 0))) ∧ Aside0 (wc.heap[gb484]? = some (.cells #[.int .i64 a1_0, .int .i64 a1_1] 25 (0, 0))) ∧ Aside0 (wc.heap[gb485]? = some (.cells #[.int .i64 0, .int .i64 0] 25 (0, 0))) ∧ Aside0 (Below w.heap.size w wc))
 case first =>
  have H := HC4.out; clear HC4; replace H := Option.bind_eq_some_iff.mp H; obtain ⟨t486, A80, H⟩ := H; (try dsimp only at H); have A8 := Aside0.mk A80; clear A80
  by_cases c9 : t486 = true
  ·
   subst c9; have H1 := ifp_ H
   clear H; have H := H1; clear H1; replace H := Option.bind_eq_some_iff.mp H; obtain ⟨t487, A100, H⟩ := H; (try dsimp only at H); have A10 := Aside0.mk A100; clear A100
   by_cases c11 : t487 = true
   ·
    subst c11; have H1 := ifp_ H
    clear H; have H := H1; clear H1; replace H := Option.bind_eq_some_iff.mp H; obtain ⟨t488, A120, H⟩ := H; (try dsimp only at H); have A12 := Aside0.mk A120; clear A120; have H' := Aside0.mk H; clear H; have hnb13 := NB483_484.out; have hnc13 := NB484_483.out; have hnb14 := NB483_485.out; have hnc14 := NB485_483.out; have hcz15_0 := cl_ (v := .int .i64 a0_0) BK483 0; have hcz15_1 := cl_ (v := .int .i64 a0_1) BK483 1; have hfz15_0 := blk_frozen BK483.out 0; have hfz15_1 := blk_frozen BK483.out 1
    go_wp2_with (first | (go_at_call 16; (with_reducible refine (spec_RangeOk.calls a0_0 a0_1 true _ A8.out).mono ?_); rintro e w16 ⟨rfl, hb⟩; replace BK483 := bb_ BK483 hb; replace BK484 := bb_ BK484 hb; replace BK485 := bb_ BK485 hb; replace HB := hb3_ HB hb GE483 GE484 GE485; (try clear hb); have hnb17 := NB484_485.out; have hnc17 := NB485_484.out; have hcz18_0 := cl_ (v := .int .i64 a1_0) BK484 0; have hcz18_1 := cl_ (v := .int .i64 a1_1) BK484 1; have hfz18_0 := blk_frozen BK484.out 0; have hfz18_1 := blk_frozen BK484.out 1) | (go_at_call 16; (with_reducible refine (spec_RangeOk.calls a1_0 a1_1 true _ A10.out).mono ?_); rintro e w19 ⟨rfl, hb⟩; replace BK483 := bb_ BK483 hb; replace BK484 := bb_ BK484 hb; replace BK485 := bb_ BK485 hb; replace HB := hb3_ HB hb GE483 GE484 GE485; (try clear hb)) | (go_at_call 61; (with_reducible refine (spec_l06Steps.calls k _ _ l2 t488 _ ?side1 ?side2 A12.out).mono ?_); (case side1 => exact sq_c (Kd.C_below HR2.out HB.out)); (case side2 => exact HC2.out); rintro e w' ⟨rfl, ⟨nd, rfl⟩⟩; (try first | exact ⟨rfl, _, World.drewN_drewN _ _ _⟩ | exact ⟨rfl, _, Eq.trans (World.drewN_drewN _ _ _) (congrArg (World.drewN _) (Nat.add_assoc _ _ _))⟩)))
    repeat (go_quiet (first | (go_at_call 16; (with_reducible refine (spec_RangeOk.calls a0_0 a0_1 true _ A8.out).mono ?_); rintro e w16 ⟨rfl, hb⟩; replace BK483 := bb_ BK483 hb; replace BK484 := bb_ BK484 hb; replace BK485 := bb_ BK485 hb; replace HB := hb3_ HB hb GE483 GE484 GE485; (try clear hb); have hnb17 := NB484_485.out; have hnc17 := NB485_484.out; have hcz18_0 := cl_ (v := .int .i64 a1_0) BK484 0; have hcz18_1 := cl_ (v := .int .i64 a1_1) BK484 1; have hfz18_0 := blk_frozen BK484.out 0; have hfz18_1 := blk_frozen BK484.out 1) | (go_at_call 16; (with_reducible refine (spec_RangeOk.calls a1_0 a1_1 true _ A10.out).mono ?_); rintro e w19 ⟨rfl, hb⟩; replace BK483 := bb_ BK483 hb; replace BK484 := bb_ BK484 hb; replace BK485 := bb_ BK485 hb; replace HB := hb3_ HB hb GE483 GE484 GE485; (try clear hb)) | (go_at_call 61; (with_reducible refine (spec_l06Steps.calls k _ _ l2 t488 _ ?side1 ?side2 A12.out).mono ?_); (case side1 => exact sq_c (Kd.C_below HR2.out HB.out)); (case side2 => exact HC2.out); rintro e w' ⟨rfl, ⟨nd, rfl⟩⟩; (try first | exact ⟨rfl, _, World.drewN_drewN _ _ _⟩ | exact ⟨rfl, _, Eq.trans (World.drewN_drewN _ _ _) (congrArg (World.drewN _) (Nat.add_assoc _ _ _))⟩))); try go_wp2_with (first | (go_at_call 16; (with_reducible refine (spec_RangeOk.calls a0_0 a0_1 true _ A8.out).mono ?_); rintro e w16 ⟨rfl, hb⟩; replace BK483 := bb_ BK483 hb; replace BK484 := bb_ BK484 hb; replace BK485 := bb_ BK485 hb; replace HB := hb3_ HB hb GE483 GE484 GE485; (try clear hb); have hnb17 := NB484_485.out; have hnc17 := NB485_484.out; have hcz18_0 := cl_ (v := .int .i64 a1_0) BK484 0; have hcz18_1 := cl_ (v := .int .i64 a1_1) BK484 1; have hfz18_0 := blk_frozen BK484.out 0; have hfz18_1 := blk_frozen BK484.out 1) | (go_at_call 16; (with_reducible refine (spec_RangeOk.calls a1_0 a1_1 true _ A10.out).mono ?_); rintro e w19 ⟨rfl, hb⟩; replace BK483 := bb_ BK483 hb; replace BK484 := bb_ BK484 hb; replace BK485 := bb_ BK485 hb; replace HB := hb3_ HB hb GE483 GE484 GE485; (try clear hb)) | (go_at_call 61; (with_reducible refine (spec_l06Steps.calls k _ _ l2 t488 _ ?side1 ?side2 A12.out).mono ?_); (case side1 => exact sq_c (Kd.C_below HR2.out HB.out)); (case side2 => exact HC2.out); rintro e w' ⟨rfl, ⟨nd, rfl⟩⟩; (try first | exact ⟨rfl, _, World.drewN_drewN _ _ _⟩ | exact ⟨rfl, _, Eq.trans (World.drewN_drewN _ _ _) (congrArg (World.drewN _) (Nat.add_assoc _ _ _))⟩))))
    go_meet
    case rel => exact ⟨_, (!t488), (by first | rfl | (simp; done) | (simp [*]; done)), H', ⟨by first | omega | exact Nat.le_refl _⟩, bk_ BK483, bk_ BK484, bk_ BK485, ⟨by repeat (first | (with_reducible first | exact HB.out | apply below_alloc | apply pw_below_drewN | apply below_drew1 | refine below_set ?_ GE483.out | refine below_set ?_ GE484.out | refine below_set ?_ GE485.out) | exact HB.out)⟩⟩
   ·
    replace c11 := Bool.eq_false_iff.mpr c11; subst c11; have H1 := ifn_ H
    clear H; have H := H1; clear H1; have H' := Aside0.mk H; clear H; have hnb20 := NB483_484.out; have hnc20 := NB484_483.out; have hnb21 := NB483_485.out; have hnc21 := NB485_483.out; have hcz22_0 := cl_ (v := .int .i64 a0_0) BK483 0; have hcz22_1 := cl_ (v := .int .i64 a0_1) BK483 1; have hfz22_0 := blk_frozen BK483.out 0; have hfz22_1 := blk_frozen BK483.out 1
    go_wp2_with (first | (go_at_call 16; (with_reducible refine (spec_RangeOk.calls a0_0 a0_1 true _ A8.out).mono ?_); rintro e w23 ⟨rfl, hb⟩; replace BK483 := bb_ BK483 hb; replace BK484 := bb_ BK484 hb; replace BK485 := bb_ BK485 hb; replace HB := hb3_ HB hb GE483 GE484 GE485; (try clear hb); have hnb24 := NB484_485.out; have hnc24 := NB485_484.out; have hcz25_0 := cl_ (v := .int .i64 a1_0) BK484 0; have hcz25_1 := cl_ (v := .int .i64 a1_1) BK484 1; have hfz25_0 := blk_frozen BK484.out 0; have hfz25_1 := blk_frozen BK484.out 1) | (go_at_call 16; (with_reducible refine (spec_RangeOk.calls a1_0 a1_1 false _ A10.out).mono ?_); rintro e w26 ⟨rfl, hb⟩; replace BK483 := bb_ BK483 hb; replace BK484 := bb_ BK484 hb; replace BK485 := bb_ BK485 hb; replace HB := hb3_ HB hb GE483 GE484 GE485; (try clear hb)))
    repeat (go_quiet (first | (go_at_call 16; (with_reducible refine (spec_RangeOk.calls a0_0 a0_1 true _ A8.out).mono ?_); rintro e w23 ⟨rfl, hb⟩; replace BK483 := bb_ BK483 hb; replace BK484 := bb_ BK484 hb; replace BK485 := bb_ BK485 hb; replace HB := hb3_ HB hb GE483 GE484 GE485; (try clear hb); have hnb24 := NB484_485.out; have hnc24 := NB485_484.out; have hcz25_0 := cl_ (v := .int .i64 a1_0) BK484 0; have hcz25_1 := cl_ (v := .int .i64 a1_1) BK484 1; have hfz25_0 := blk_frozen BK484.out 0; have hfz25_1 := blk_frozen BK484.out 1) | (go_at_call 16; (with_reducible refine (spec_RangeOk.calls a1_0 a1_1 false _ A10.out).mono ?_); rintro e w26 ⟨rfl, hb⟩; replace BK483 := bb_ BK483 hb; replace BK484 := bb_ BK484 hb; replace BK485 := bb_ BK485 hb; replace HB := hb3_ HB hb GE483 GE484 GE485; (try clear hb))); try go_wp2_with (first | (go_at_call 16; (with_reducible refine (spec_RangeOk.calls a0_0 a0_1 true _ A8.out).mono ?_); rintro e w23 ⟨rfl, hb⟩; replace BK483 := bb_ BK483 hb; replace BK484 := bb_ BK484 hb; replace BK485 := bb_ BK485 hb; replace HB := hb3_ HB hb GE483 GE484 GE485; (try clear hb); have hnb24 := NB484_485.out; have hnc24 := NB485_484.out; have hcz25_0 := cl_ (v := .int .i64 a1_0) BK484 0; have hcz25_1 := cl_ (v := .int .i64 a1_1) BK484 1; have hfz25_0 := blk_frozen BK484.out 0; have hfz25_1 := blk_frozen BK484.out 1) | (go_at_call 16; (with_reducible refine (spec_RangeOk.calls a1_0 a1_1 false _ A10.out).mono ?_); rintro e w26 ⟨rfl, hb⟩; replace BK483 := bb_ BK483 hb; replace BK484 := bb_ BK484 hb; replace BK485 := bb_ BK485 hb; replace HB := hb3_ HB hb GE483 GE484 GE485; (try clear hb))))
    go_meet
    case rel => exact ⟨_, (true), (by first | rfl | (simp; done) | (simp [*]; done)), H', ⟨by first | omega | exact Nat.le_refl _⟩, bk_ BK483, bk_ BK484, bk_ BK485, ⟨by repeat (first | (with_reducible first | exact HB.out | apply below_alloc | apply pw_below_drewN | apply below_drew1 | refine below_set ?_ GE483.out | refine below_set ?_ GE484.out | refine below_set ?_ GE485.out) | exact HB.out)⟩⟩
  ·
   replace c9 := Bool.eq_false_iff.mpr c9; subst c9; have H1 := ifn_ H
   clear H; have H := H1; clear H1; have H' := Aside0.mk H; clear H; have hnb27 := NB483_484.out; have hnc27 := NB484_483.out; have hnb28 := NB483_485.out; have hnc28 := NB485_483.out; have hcz29_0 := cl_ (v := .int .i64 a0_0) BK483 0; have hcz29_1 := cl_ (v := .int .i64 a0_1) BK483 1; have hfz29_0 := blk_frozen BK483.out 0; have hfz29_1 := blk_frozen BK483.out 1
   go_wp2_with (first | (go_at_call 16; (with_reducible refine (spec_RangeOk.calls a0_0 a0_1 false _ A8.out).mono ?_); rintro e w30 ⟨rfl, hb⟩; replace BK483 := bb_ BK483 hb; replace BK484 := bb_ BK484 hb; replace BK485 := bb_ BK485 hb; replace HB := hb3_ HB hb GE483 GE484 GE485; (try clear hb)))
   repeat (go_quiet (first | (go_at_call 16; (with_reducible refine (spec_RangeOk.calls a0_0 a0_1 false _ A8.out).mono ?_); rintro e w30 ⟨rfl, hb⟩; replace BK483 := bb_ BK483 hb; replace BK484 := bb_ BK484 hb; replace BK485 := bb_ BK485 hb; replace HB := hb3_ HB hb GE483 GE484 GE485; (try clear hb))); try go_wp2_with (first | (go_at_call 16; (with_reducible refine (spec_RangeOk.calls a0_0 a0_1 false _ A8.out).mono ?_); rintro e w30 ⟨rfl, hb⟩; replace BK483 := bb_ BK483 hb; replace BK484 := bb_ BK484 hb; replace BK485 := bb_ BK485 hb; replace HB := hb3_ HB hb GE483 GE484 GE485; (try clear hb))))
   go_meet
   case rel => exact ⟨_, (true), (by first | rfl | (simp; done) | (simp [*]; done)), H', ⟨by first | omega | exact Nat.le_refl _⟩, bk_ BK483, bk_ BK484, bk_ BK485, ⟨by repeat (first | (with_reducible first | exact HB.out | apply below_alloc | apply pw_below_drewN | apply below_drew1 | refine below_set ?_ GE483.out | refine below_set ?_ GE484.out | refine below_set ?_ GE485.out) | exact HB.out)⟩⟩
 case rest =>
  clear HC4
  try clear c1
  try clear c2
  try clear p2
  try clear c9
  try clear c11
  try clear c13
  try clear c14
  try clear c17
  try clear c20
  try clear c21
  try clear c24
  try clear c27
  try clear c28
  try clear hcz15_0
  try clear hcz15_1
  try clear hcz18_0
  try clear hcz18_1
  try clear hcz22_0
  try clear hcz22_1
  try clear hcz25_0
  try clear hcz25_1
  try clear hcz29_0
  try clear hcz29_1
  try clear hfz15_0
  try clear hfz15_1
  try clear hfz18_0
  try clear hfz18_1
  try clear hfz22_0
  try clear hfz22_1
  try clear hfz25_0
  try clear hfz25_1
  try clear hfz29_0
  try clear hfz29_1
  obtain ⟨kq, x11_3, rfl, HA, HJ3, BK483, BK484, BK485, HB⟩ := hcut; cases kq with
  | zero => exact absurd HA.out (by simp [spec_RangeWiden.j0])
  | succ kj3 =>
   have H := HA.out; clear HA; simp only [spec_RangeWiden.j0] at H
   by_cases c31 : x11_3 = true
   ·
    subst c31; have H1 := ifp_ H
    clear H; have H := H1; clear H1; replace H := Option.bind_eq_some_iff.mp H; obtain ⟨⟨t489, t490⟩, A320, H⟩ := H; replace H : (some (t489, t490)) = some (r1, r2) := H; have A32 := Aside0.mk A320; clear A320; simp only [Option.some.injEq, Prod.mk.injEq] at H; obtain ⟨rfl, rfl⟩ := H
    go_wp2_with (first | (go_at_call 51; (with_reducible refine (spec_l06None.calls  t489 t490 _ A32.out).mono ?_); rintro e w33 ⟨rfl, hb⟩; replace BK485 := bb_ BK485 hb; replace HB := hb1_ HB hb GE485; (try clear hb); have hcz34_0 := cl_ (v := .int .i64 0) BK485 0; have hcz34_1 := cl_ (v := .int .i64 0) BK485 1; have hfz34_0 := blk_frozen BK485.out 0; have hfz34_1 := blk_frozen BK485.out 1))
    repeat (go_quiet (first | (go_at_call 51; (with_reducible refine (spec_l06None.calls  t489 t490 _ A32.out).mono ?_); rintro e w33 ⟨rfl, hb⟩; replace BK485 := bb_ BK485 hb; replace HB := hb1_ HB hb GE485; (try clear hb); have hcz34_0 := cl_ (v := .int .i64 0) BK485 0; have hcz34_1 := cl_ (v := .int .i64 0) BK485 1; have hfz34_0 := blk_frozen BK485.out 0; have hfz34_1 := blk_frozen BK485.out 1)); try go_wp2_with (first | (go_at_call 51; (with_reducible refine (spec_l06None.calls  t489 t490 _ A32.out).mono ?_); rintro e w33 ⟨rfl, hb⟩; replace BK485 := bb_ BK485 hb; replace HB := hb1_ HB hb GE485; (try clear hb); have hcz34_0 := cl_ (v := .int .i64 0) BK485 0; have hcz34_1 := cl_ (v := .int .i64 0) BK485 1; have hfz34_0 := blk_frozen BK485.out 0; have hfz34_1 := blk_frozen BK485.out 1)))
    refine bodyPost_ret (results_cell_row rfl _ _ gb485 25 #[.int .i64 t489, .int .i64 t490] (0, 0) _ rfl (bp_ BK485) Tryd.underlying25 rfl (by kernel_rfl)) rfl ?_; exact ⟨by first | rfl | (simp [errW_none, errW_some] <;> rfl) | (simp [*, errW_none, errW_some] <;> rfl), by repeat (first | (with_reducible first | exact HB.out | apply below_alloc | apply pw_below_drewN | apply below_drew1 | refine below_set ?_ GE485.out) | exact HB.out)⟩
   ·
    replace c31 := Bool.eq_false_iff.mpr c31; subst c31; have H1 := ifn_ H
    clear H; have H := H1; clear H1; replace H := Option.bind_eq_some_iff.mp H; obtain ⟨t491, A350, H⟩ := H; (try dsimp only at H); have A35 := Aside0.mk A350; clear A350
    by_cases c36 : t491 = true
    ·
     subst c36; have H1 := ifp_ H
     clear H; have H := H1; clear H1; replace H := Option.bind_eq_some_iff.mp H; obtain ⟨t492, A370, H⟩ := H; (try dsimp only at H); have A37 := Aside0.mk A370; clear A370
     by_cases c38 : t492 = true
     ·
      subst c38; have H1 := ifp_ H
      clear H; have H := H1; clear H1; have HC39 := Aside0.mk H; clear H; have hnb40 := NB483_484.out; have hnc40 := NB484_483.out; have hnb41 := NB483_485.out; have hnc41 := NB485_483.out; have hcz42_0 := cl_ (v := .int .i64 a0_0) BK483 0; have hcz42_1 := cl_ (v := .int .i64 a0_1) BK483 1; have hfz42_0 := blk_frozen BK483.out 0; have hfz42_1 := blk_frozen BK483.out 1
      go_upto_if 42 with (first | (go_at_call 55; (with_reducible refine (spec_l06Is.calls a0_0 a0_1 true _ A35.out).mono ?_); rintro e w43 ⟨rfl, hb⟩; replace BK483 := bb_ BK483 hb; replace BK484 := bb_ BK484 hb; replace BK485 := bb_ BK485 hb; replace HB := hb3_ HB hb GE483 GE484 GE485; (try clear hb); have hnb44 := NB484_485.out; have hnc44 := NB485_484.out; have hcz45_0 := cl_ (v := .int .i64 a1_0) BK484 0; have hcz45_1 := cl_ (v := .int .i64 a1_1) BK484 1; have hfz45_0 := blk_frozen BK484.out 0; have hfz45_1 := blk_frozen BK484.out 1) | (go_at_call 55; (with_reducible refine (spec_l06Is.calls a1_0 a1_1 true _ A37.out).mono ?_); rintro e w46 ⟨rfl, hb⟩; replace BK483 := bb_ BK483 hb; replace BK484 := bb_ BK484 hb; replace BK485 := bb_ BK485 hb; replace HB := hb3_ HB hb GE483 GE484 GE485; (try clear hb); have hcz47_0 := cl_ (v := .int .i64 a0_0) BK483 0; have hcz47_1 := cl_ (v := .int .i64 a0_1) BK483 1; have hfz47_0 := blk_frozen BK483.out 0; have hfz47_1 := blk_frozen BK483.out 1; have hcz48_0 := cl_ (v := .int .i64 a1_0) BK484 0; have hcz48_1 := cl_ (v := .int .i64 a1_1) BK484 1; have hfz48_0 := blk_frozen BK484.out 0; have hfz48_1 := blk_frozen BK484.out 1))
      repeat (go_quiet (first | (go_at_call 55; (with_reducible refine (spec_l06Is.calls a0_0 a0_1 true _ A35.out).mono ?_); rintro e w43 ⟨rfl, hb⟩; replace BK483 := bb_ BK483 hb; replace BK484 := bb_ BK484 hb; replace BK485 := bb_ BK485 hb; replace HB := hb3_ HB hb GE483 GE484 GE485; (try clear hb); have hnb44 := NB484_485.out; have hnc44 := NB485_484.out; have hcz45_0 := cl_ (v := .int .i64 a1_0) BK484 0; have hcz45_1 := cl_ (v := .int .i64 a1_1) BK484 1; have hfz45_0 := blk_frozen BK484.out 0; have hfz45_1 := blk_frozen BK484.out 1) | (go_at_call 55; (with_reducible refine (spec_l06Is.calls a1_0 a1_1 true _ A37.out).mono ?_); rintro e w46 ⟨rfl, hb⟩; replace BK483 := bb_ BK483 hb; replace BK484 := bb_ BK484 hb; replace BK485 := bb_ BK485 hb; replace HB := hb3_ HB hb GE483 GE484 GE485; (try clear hb); have hcz47_0 := cl_ (v := .int .i64 a0_0) BK483 0; have hcz47_1 := cl_ (v := .int .i64 a0_1) BK483 1; have hfz47_0 := blk_frozen BK483.out 0; have hfz47_1 := blk_frozen BK483.out 1; have hcz48_0 := cl_ (v := .int .i64 a1_0) BK484 0; have hcz48_1 := cl_ (v := .int .i64 a1_1) BK484 1; have hfz48_0 := blk_frozen BK484.out 0; have hfz48_1 := blk_frozen BK484.out 1)); go_upto_if 42 with (first | (go_at_call 55; (with_reducible refine (spec_l06Is.calls a0_0 a0_1 true _ A35.out).mono ?_); rintro e w43 ⟨rfl, hb⟩; replace BK483 := bb_ BK483 hb; replace BK484 := bb_ BK484 hb; replace BK485 := bb_ BK485 hb; replace HB := hb3_ HB hb GE483 GE484 GE485; (try clear hb); have hnb44 := NB484_485.out; have hnc44 := NB485_484.out; have hcz45_0 := cl_ (v := .int .i64 a1_0) BK484 0; have hcz45_1 := cl_ (v := .int .i64 a1_1) BK484 1; have hfz45_0 := blk_frozen BK484.out 0; have hfz45_1 := blk_frozen BK484.out 1) | (go_at_call 55; (with_reducible refine (spec_l06Is.calls a1_0 a1_1 true _ A37.out).mono ?_); rintro e w46 ⟨rfl, hb⟩; replace BK483 := bb_ BK483 hb; replace BK484 := bb_ BK484 hb; replace BK485 := bb_ BK485 hb; replace HB := hb3_ HB hb GE483 GE484 GE485; (try clear hb); have hcz47_0 := cl_ (v := .int .i64 a0_0) BK483 0; have hcz47_1 := cl_ (v := .int .i64 a0_1) BK483 1; have hfz47_0 := blk_frozen BK483.out 0; have hfz47_1 := blk_frozen BK483.out 1; have hcz48_0 := cl_ (v := .int .i64 a1_0) BK484 0; have hcz48_1 := cl_ (v := .int .i64 a1_1) BK484 1; have hfz48_0 := blk_frozen BK484.out 0; have hfz48_1 := blk_frozen BK484.out 1)))
      (try simp only [Act.put, List.setIfInBounds_toArray, List.set_cons_zero, List.set_cons_succ])
      go_cut [7] (fun v7 wc => ∃ (kq : Nat) (x7_38 : Int), v7 = .int .i64 x7_38 ∧ Aside0 (spec_RangeWiden.j2 kq l2 x7_38 a0_0 a0_1 a1_0 a1_1 = some (r1, r2)) ∧ Aside0 (kq ≤ kj3) ∧ Aside0 (wc.heap[gb483]? = some (.cells #[.int .i64 a0_0, .int .i64 a0_1] 25 (0, 0))) ∧ Aside0 (wc.heap[gb484]? = some (.cells #[.int .i64 a1_0, .int .i64 a1_1] 25 (0, 0))) ∧ Aside0 (wc.heap[gb485]? = some (.cells #[.int .i64 0, .int .i64 0] 25 (0, 0))) ∧ Aside0 (Below w.heap.size w wc))
      case first =>
       have H := HC39.out; clear HC39
       by_cases c49 : a1_0 < a0_0
       ·
        rw [if_pos c49] at H; have c49b0 : decide (a1_0 < a0_0) = true := decide_eq_true c49; clear c49
        (first | rw [c49b0] | (simp only [i64_w, i32_w]; rw [c49b0]) | skip)
        have H' := Aside0.mk H; clear H
        go_wp2
        repeat (go_quiet (fail); try go_wp2)
        go_loopg [7, 8] kj3 (fun kq v7 v8 w' => ∃ (x7_2 : Int) (x8_2 : Int), v7 = .int .i64 x7_2 ∧ v8 = .int .i64 x8_2 ∧ Aside0 (spec_RangeWiden.l0 kq l2 x7_2 x8_2 a0_0 a0_1 a1_0 a1_1 = some (r1, r2)) ∧ Aside0 (kq ≤ kj3) ∧ Aside0 (w'.heap[gb483]? = some (.cells #[.int .i64 a0_0, .int .i64 a0_1] 25 (0, 0))) ∧ Aside0 (w'.heap[gb484]? = some (.cells #[.int .i64 a1_0, .int .i64 a1_1] 25 (0, 0))) ∧ Aside0 (w'.heap[gb485]? = some (.cells #[.int .i64 0, .int .i64 0] 25 (0, 0))) ∧ Aside0 (Below w.heap.size w w'))
        case atStart => exact ⟨((-1000000)), (0), (by first | rfl | (simp; done) | (simp [*]; done)), (by first | rfl | (simp; done) | (simp [*]; done)), H', ⟨Nat.le_refl _⟩, bk_ BK483, bk_ BK484, bk_ BK485, ⟨by repeat (first | (with_reducible first | exact HB.out | apply below_alloc | apply pw_below_drewN | apply below_drew1 | refine below_set ?_ GE483.out | refine below_set ?_ GE484.out | refine below_set ?_ GE485.out) | exact HB.out)⟩⟩
        case round =>
         clear H'
         try clear c1
         try clear c2
         try clear p2
         try clear c3
         try clear c4
         try clear c9
         try clear c11
         try clear c13
         try clear c14
         try clear c17
         try clear c20
         try clear c21
         try clear c24
         try clear c27
         try clear c28
         try clear c31
         try clear c36
         try clear c38
         try clear c40
         try clear c41
         try clear c44
         try clear c49
         try clear c49b0
         try clear hcz15_0
         try clear hcz15_1
         try clear hcz18_0
         try clear hcz18_1
         try clear hcz22_0
         try clear hcz22_1
         try clear hcz25_0
         try clear hcz25_1
         try clear hcz29_0
         try clear hcz29_1
         try clear hcz34_0
         try clear hcz34_1
         try clear hcz42_0
         try clear hcz42_1
         try clear hcz45_0
         try clear hcz45_1
         try clear hcz47_0
         try clear hcz47_1
         try clear hcz48_0
         try clear hcz48_1
         try clear hfz15_0
         try clear hfz15_1
         try clear hfz18_0
         try clear hfz18_1
         try clear hfz22_0
         try clear hfz22_1
         try clear hfz25_0
         try clear hfz25_1
         try clear hfz29_0
         try clear hfz29_1
         try clear hfz34_0
         try clear hfz34_1
         try clear hfz42_0
         try clear hfz42_1
         try clear hfz45_0
         try clear hfz45_1
         try clear hfz47_0
         try clear hfz47_1
         try clear hfz48_0
         try clear hfz48_1
         try clear p2
         obtain ⟨x7_2, x8_2, rfl, rfl, HA, HK2, BK483, BK484, BK485, HB⟩ := hrel; cases gk with
         | zero => exact absurd HA.out (by simp [spec_RangeWiden.l0])
         | succ k2 =>
          have H := HA.out; clear HA; simp only [spec_RangeWiden.l0] at H
          by_cases c50 : x8_2 < (l2.length : Int)
          ·
           rw [if_pos c50] at H; have c50b0 : decide (x8_2 < (l2.length : Int)) = true := decide_eq_true c50; clear c50
           by_cases c51 : 0 ≤ x8_2
           ·
            rw [if_pos c51] at H; have c51b0 : decide (0 ≤ x8_2) = true := decide_eq_true c51; clear c51
            by_cases c52 : (rd l2 x8_2) ≤ a1_0
            ·
             rw [if_pos c52] at H; have c52b0 : decide ((rd l2 x8_2) ≤ a1_0) = true := decide_eq_true c52; clear c52; have H' := Aside0.mk H; clear H; have p493 : 0 ≤ (x8_2 : Int) := sq_dec; have q493 : x8_2 < (l2.length : Int) := sq_dec; obtain ⟨ad493, e493, hx493_0⟩ := Kd.at_int HR2.out x8_2 p493 q493; cases e493; replace hx493_0 := (HB.out.cell (World.block_lt_of_cell? w _ hx493_0)).trans hx493_0; replace p493 := eq_true p493; replace q493 := eq_true q493; have hnb53 := NB484_483.out; have hnc53 := NB483_484.out; have hnb54 := NB484_485.out; have hnc54 := NB485_484.out; have hcz55_0 := cl_ (v := .int .i64 a1_0) BK484 0; have hcz55_1 := cl_ (v := .int .i64 a1_1) BK484 1; have hfz55_0 := blk_frozen BK484.out 0; have hfz55_1 := blk_frozen BK484.out 1; have p494 : 0 ≤ (x8_2 : Int) := sq_dec; have q494 : x8_2 < (l2.length : Int) := sq_dec; obtain ⟨ad494, e494, hx494_0⟩ := Kd.at_int HR2.out x8_2 p494 q494; obtain rfl : ad493 = ad494 := (by injection e494); replace hx494_0 := (HB.out.cell (World.block_lt_of_cell? w _ hx494_0)).trans hx494_0; replace p494 := eq_true p494; replace q494 := eq_true q494
             go_wp2
             repeat (go_quiet (fail); try go_wp2)
             go_roundg k2
             case measure => have := HJ3.out; have := HK2.out; omega
             case rel => exact ⟨(rd l2 x8_2), (wrap64 (x8_2 + 1)), (by first | rfl | (simp; done) | (simp [*]; done)), (by first | rfl | (simp; done) | (simp [*]; done)), H', ⟨by have := HJ3.out; have := HK2.out; omega⟩, bk_ BK483, bk_ BK484, bk_ BK485, ⟨by repeat (first | (with_reducible first | exact HB.out | apply below_alloc | apply pw_below_drewN | apply below_drew1 | refine below_set ?_ GE483.out | refine below_set ?_ GE484.out | refine below_set ?_ GE485.out) | exact HB.out)⟩⟩
            ·
             rw [if_neg c52] at H; have c52b0 : decide ((rd l2 x8_2) ≤ a1_0) = false := decide_eq_false c52; clear c52; have H' := Aside0.mk H; clear H; have p493 : 0 ≤ (x8_2 : Int) := sq_dec; have q493 : x8_2 < (l2.length : Int) := sq_dec; obtain ⟨ad493, e493, hx493_0⟩ := Kd.at_int HR2.out x8_2 p493 q493; cases e493; replace hx493_0 := (HB.out.cell (World.block_lt_of_cell? w _ hx493_0)).trans hx493_0; replace p493 := eq_true p493; replace q493 := eq_true q493; have hnb56 := NB484_483.out; have hnc56 := NB483_484.out; have hnb57 := NB484_485.out; have hnc57 := NB485_484.out; have hcz58_0 := cl_ (v := .int .i64 a1_0) BK484 0; have hcz58_1 := cl_ (v := .int .i64 a1_1) BK484 1; have hfz58_0 := blk_frozen BK484.out 0; have hfz58_1 := blk_frozen BK484.out 1
             go_wp2
             repeat (go_quiet (fail); try go_wp2)
             go_roundg k2
             case measure => have := HJ3.out; have := HK2.out; omega
             case rel => exact ⟨(x7_2), (wrap64 (x8_2 + 1)), (by first | rfl | (simp; done) | (simp [*]; done)), (by first | rfl | (simp; done) | (simp [*]; done)), H', ⟨by have := HJ3.out; have := HK2.out; omega⟩, bk_ BK483, bk_ BK484, bk_ BK485, ⟨by repeat (first | (with_reducible first | exact HB.out | apply below_alloc | apply pw_below_drewN | apply below_drew1 | refine below_set ?_ GE483.out | refine below_set ?_ GE484.out | refine below_set ?_ GE485.out) | exact HB.out)⟩⟩
           ·
            rw [if_neg c51] at H; exact absurd H (by simp)
          ·
           rw [if_neg c50] at H; have c50b0 : decide (x8_2 < (l2.length : Int)) = false := decide_eq_false c50; clear c50; have H' := Aside0.mk H; clear H
           go_wp2
           repeat (go_quiet (fail); try go_wp2)
           go_meet
           case rel => exact ⟨_, (x7_2), (by first | rfl | (simp; done) | (simp [*]; done)), H', ⟨by have := HJ3.out; have := HK2.out; first | omega | exact Nat.le_refl _⟩, bk_ BK483, bk_ BK484, bk_ BK485, ⟨by repeat (first | (with_reducible first | exact HB.out | apply below_alloc | apply pw_below_drewN | apply below_drew1 | refine below_set ?_ GE483.out | refine below_set ?_ GE484.out | refine below_set ?_ GE485.out) | exact HB.out)⟩⟩
       ·
        rw [if_neg c49] at H; have c49b0 : decide (a1_0 < a0_0) = false := decide_eq_false c49; clear c49
        (first | rw [c49b0] | (simp only [i64_w, i32_w]; rw [c49b0]) | skip)
        have H' := Aside0.mk H; clear H
        go_wp2
        repeat (go_quiet (fail); try go_wp2)
        go_meet
        case rel => exact ⟨_, (a0_0), (by first | rfl | (simp; done) | (simp [*]; done)), H', ⟨by have := HJ3.out; first | omega | exact Nat.le_refl _⟩, bk_ BK483, bk_ BK484, bk_ BK485, ⟨by repeat (first | (with_reducible first | exact HB.out | apply below_alloc | apply pw_below_drewN | apply below_drew1 | refine below_set ?_ GE483.out | refine below_set ?_ GE484.out | refine below_set ?_ GE485.out) | exact HB.out)⟩⟩
      case rest =>
       clear HC39
       try clear c1
       try clear c2
       try clear p2
       try clear c3
       try clear c4
       try clear p4
       try clear q4
       try clear hx4
       try clear c5
       try clear p6
       try clear c9
       try clear c11
       try clear c13
       try clear c14
       try clear c17
       try clear c20
       try clear c21
       try clear c24
       try clear c27
       try clear c28
       try clear c31
       try clear c36
       try clear c38
       try clear c40
       try clear c41
       try clear c44
       try clear c49
       try clear c49b0
       try clear p49
       try clear q49
       try clear hx49
       try clear c50
       try clear c50b0
       try clear c51
       try clear c51b0
       try clear c52
       try clear c52b0
       try clear c53
       try clear c54
       try clear c56
       try clear c57
       try clear hcz15_0
       try clear hcz15_1
       try clear hcz18_0
       try clear hcz18_1
       try clear hcz22_0
       try clear hcz22_1
       try clear hcz25_0
       try clear hcz25_1
       try clear hcz29_0
       try clear hcz29_1
       try clear hcz34_0
       try clear hcz34_1
       try clear hcz42_0
       try clear hcz42_1
       try clear hcz45_0
       try clear hcz45_1
       try clear hcz47_0
       try clear hcz47_1
       try clear hcz48_0
       try clear hcz48_1
       try clear hcz55_0
       try clear hcz55_1
       try clear hcz58_0
       try clear hcz58_1
       try clear hfz15_0
       try clear hfz15_1
       try clear hfz18_0
       try clear hfz18_1
       try clear hfz22_0
       try clear hfz22_1
       try clear hfz25_0
       try clear hfz25_1
       try clear hfz29_0
       try clear hfz29_1
       try clear hfz34_0
       try clear hfz34_1
       try clear hfz42_0
       try clear hfz42_1
       try clear hfz45_0
       try clear hfz45_1
       try clear hfz47_0
       try clear hfz47_1
       try clear hfz48_0
       try clear hfz48_1
       try clear hfz55_0
       try clear hfz55_1
       try clear hfz58_0
       try clear hfz58_1
       try clear hx493_0
       try clear hx494_0
       try clear p2
       try clear p493
       try clear p494
       try clear q493
       try clear q494
       obtain ⟨kq, x7_38, rfl, HA, HJ38, BK483, BK484, BK485, HB⟩ := hcut; cases kq with
       | zero => exact absurd HA.out (by simp [spec_RangeWiden.j2])
       | succ kj38 =>
        have H := HA.out; clear HA; simp only [spec_RangeWiden.j2] at H
        by_cases c59 : a1_1 > a0_1
        ·
         rw [if_pos c59] at H; have c59b0 : decide (a0_1 < a1_1) = true := decide_eq_true c59; clear c59; have H' := Aside0.mk H; clear H; have hnb60 := NB483_484.out; have hnc60 := NB484_483.out; have hnb61 := NB483_485.out; have hnc61 := NB485_483.out; have hcz62_0 := cl_ (v := .int .i64 a0_0) BK483 0; have hcz62_1 := cl_ (v := .int .i64 a0_1) BK483 1; have hfz62_0 := blk_frozen BK483.out 0; have hfz62_1 := blk_frozen BK483.out 1; have hnb63 := NB484_485.out; have hnc63 := NB485_484.out; have hcz64_0 := cl_ (v := .int .i64 a1_0) BK484 0; have hcz64_1 := cl_ (v := .int .i64 a1_1) BK484 1; have hfz64_0 := blk_frozen BK484.out 0; have hfz64_1 := blk_frozen BK484.out 1
         go_wp2
         repeat (go_quiet (fail); try go_wp2)
         go_loopg [9, 10] kj38 (fun kq v9 v10 w' => ∃ (x9_3 : Int) (x10_3 : Int), v9 = .int .i64 x9_3 ∧ v10 = .int .i64 x10_3 ∧ Aside0 (spec_RangeWiden.l1 kq l2 x7_38 x9_3 x10_3 a1_0 a1_1 = some (r1, r2)) ∧ Aside0 (kq ≤ kj38) ∧ Aside0 (w'.heap[gb483]? = some (.cells #[.int .i64 a0_0, .int .i64 a0_1] 25 (0, 0))) ∧ Aside0 (w'.heap[gb484]? = some (.cells #[.int .i64 a1_0, .int .i64 a1_1] 25 (0, 0))) ∧ Aside0 (w'.heap[gb485]? = some (.cells #[.int .i64 0, .int .i64 0] 25 (0, 0))) ∧ Aside0 (Below w.heap.size w w'))
         case atStart => exact ⟨(1000000), (wrap64 ((l2.length : Int) - 1)), (by first | rfl | (simp; done) | (simp [*]; done)), (by first | rfl | (simp; done) | (simp [*]; done)), H', ⟨Nat.le_refl _⟩, bk_ BK483, bk_ BK484, bk_ BK485, ⟨by repeat (first | (with_reducible first | exact HB.out | apply below_alloc | apply pw_below_drewN | apply below_drew1 | refine below_set ?_ GE483.out | refine below_set ?_ GE484.out | refine below_set ?_ GE485.out) | exact HB.out)⟩⟩
         case round =>
          clear H'
          try clear c1
          try clear c2
          try clear p2
          try clear c3
          try clear c4
          try clear p4
          try clear q4
          try clear hx4
          try clear c5
          try clear c6
          try clear p6
          try clear c9
          try clear c11
          try clear c13
          try clear c14
          try clear c17
          try clear c20
          try clear c21
          try clear c24
          try clear c27
          try clear c28
          try clear c31
          try clear c36
          try clear c38
          try clear c40
          try clear c41
          try clear c44
          try clear c49
          try clear c49b0
          try clear p49
          try clear q49
          try clear hx49
          try clear c50
          try clear c50b0
          try clear c51
          try clear c51b0
          try clear c52
          try clear c52b0
          try clear c53
          try clear c54
          try clear c56
          try clear c57
          try clear c59
          try clear c59b0
          try clear c60
          try clear c61
          try clear c63
          try clear p64
          try clear hcz15_0
          try clear hcz15_1
          try clear hcz18_0
          try clear hcz18_1
          try clear hcz22_0
          try clear hcz22_1
          try clear hcz25_0
          try clear hcz25_1
          try clear hcz29_0
          try clear hcz29_1
          try clear hcz34_0
          try clear hcz34_1
          try clear hcz42_0
          try clear hcz42_1
          try clear hcz45_0
          try clear hcz45_1
          try clear hcz47_0
          try clear hcz47_1
          try clear hcz48_0
          try clear hcz48_1
          try clear hcz55_0
          try clear hcz55_1
          try clear hcz58_0
          try clear hcz58_1
          try clear hcz62_0
          try clear hcz62_1
          try clear hcz64_0
          try clear hcz64_1
          try clear hfz15_0
          try clear hfz15_1
          try clear hfz18_0
          try clear hfz18_1
          try clear hfz22_0
          try clear hfz22_1
          try clear hfz25_0
          try clear hfz25_1
          try clear hfz29_0
          try clear hfz29_1
          try clear hfz34_0
          try clear hfz34_1
          try clear hfz42_0
          try clear hfz42_1
          try clear hfz45_0
          try clear hfz45_1
          try clear hfz47_0
          try clear hfz47_1
          try clear hfz48_0
          try clear hfz48_1
          try clear hfz55_0
          try clear hfz55_1
          try clear hfz58_0
          try clear hfz58_1
          try clear hfz62_0
          try clear hfz62_1
          try clear hfz64_0
          try clear hfz64_1
          try clear hx493_0
          try clear hx494_0
          try clear p2
          try clear p4
          try clear p49
          try clear p493
          try clear p494
          try clear p6
          try clear q4
          try clear q49
          try clear q493
          try clear q494
          obtain ⟨x9_3, x10_3, rfl, rfl, HA, HK3, BK483, BK484, BK485, HB⟩ := hrel; cases gk with
          | zero => exact absurd HA.out (by simp [spec_RangeWiden.l1])
          | succ k3 =>
           have H := HA.out; clear HA; simp only [spec_RangeWiden.l1] at H
           by_cases c65 : x10_3 ≥ 0
           ·
            rw [if_pos c65] at H; have c65b0 : decide (0 ≤ x10_3) = true := decide_eq_true c65; clear c65
            by_cases c66 : 0 ≤ x10_3
            ·
             rw [if_pos c66] at H; have c66b0 : decide (0 ≤ x10_3) = true := decide_eq_true c66; clear c66
             by_cases c67 : x10_3 < (l2.length : Int)
             ·
              rw [if_pos c67] at H; have c67b0 : decide (x10_3 < (l2.length : Int)) = true := decide_eq_true c67; clear c67
              by_cases c68 : (rd l2 x10_3) ≥ a1_1
              ·
               rw [if_pos c68] at H; have c68b0 : decide (a1_1 ≤ (rd l2 x10_3)) = true := decide_eq_true c68; clear c68; have H' := Aside0.mk H; clear H; have p495 : 0 ≤ (x10_3 : Int) := sq_dec; have q495 : x10_3 < (l2.length : Int) := sq_dec; obtain ⟨ad495, e495, hx495_0⟩ := Kd.at_int HR2.out x10_3 p495 q495; cases e495; replace hx495_0 := (HB.out.cell (World.block_lt_of_cell? w _ hx495_0)).trans hx495_0; replace p495 := eq_true p495; replace q495 := eq_true q495; have hnb69 := NB484_483.out; have hnc69 := NB483_484.out; have hnb70 := NB484_485.out; have hnc70 := NB485_484.out; have hcz71_0 := cl_ (v := .int .i64 a1_0) BK484 0; have hcz71_1 := cl_ (v := .int .i64 a1_1) BK484 1; have hfz71_0 := blk_frozen BK484.out 0; have hfz71_1 := blk_frozen BK484.out 1; have p496 : 0 ≤ (x10_3 : Int) := sq_dec; have q496 : x10_3 < (l2.length : Int) := sq_dec; obtain ⟨ad496, e496, hx496_0⟩ := Kd.at_int HR2.out x10_3 p496 q496; obtain rfl : ad495 = ad496 := (by injection e496); replace hx496_0 := (HB.out.cell (World.block_lt_of_cell? w _ hx496_0)).trans hx496_0; replace p496 := eq_true p496; replace q496 := eq_true q496
               go_wp2
               repeat (go_quiet (fail); try go_wp2)
               go_roundg k3
               case measure => have := HJ3.out; have := HJ38.out; have := HK3.out; omega
               case rel => exact ⟨(rd l2 x10_3), (wrap64 (x10_3 - 1)), (by first | rfl | (simp; done) | (simp [*]; done)), (by first | rfl | (simp; done) | (simp [*]; done)), H', ⟨by have := HJ3.out; have := HJ38.out; have := HK3.out; omega⟩, bk_ BK483, bk_ BK484, bk_ BK485, ⟨by repeat (first | (with_reducible first | exact HB.out | apply below_alloc | apply pw_below_drewN | apply below_drew1 | refine below_set ?_ GE483.out | refine below_set ?_ GE484.out | refine below_set ?_ GE485.out) | exact HB.out)⟩⟩
              ·
               rw [if_neg c68] at H; have c68b0 : decide (a1_1 ≤ (rd l2 x10_3)) = false := decide_eq_false c68; clear c68; have H' := Aside0.mk H; clear H; have p495 : 0 ≤ (x10_3 : Int) := sq_dec; have q495 : x10_3 < (l2.length : Int) := sq_dec; obtain ⟨ad495, e495, hx495_0⟩ := Kd.at_int HR2.out x10_3 p495 q495; cases e495; replace hx495_0 := (HB.out.cell (World.block_lt_of_cell? w _ hx495_0)).trans hx495_0; replace p495 := eq_true p495; replace q495 := eq_true q495; have hnb72 := NB484_483.out; have hnc72 := NB483_484.out; have hnb73 := NB484_485.out; have hnc73 := NB485_484.out; have hcz74_0 := cl_ (v := .int .i64 a1_0) BK484 0; have hcz74_1 := cl_ (v := .int .i64 a1_1) BK484 1; have hfz74_0 := blk_frozen BK484.out 0; have hfz74_1 := blk_frozen BK484.out 1
               go_wp2
               repeat (go_quiet (fail); try go_wp2)
               go_roundg k3
               case measure => have := HJ3.out; have := HJ38.out; have := HK3.out; omega
               case rel => exact ⟨(x9_3), (wrap64 (x10_3 - 1)), (by first | rfl | (simp; done) | (simp [*]; done)), (by first | rfl | (simp; done) | (simp [*]; done)), H', ⟨by have := HJ3.out; have := HJ38.out; have := HK3.out; omega⟩, bk_ BK483, bk_ BK484, bk_ BK485, ⟨by repeat (first | (with_reducible first | exact HB.out | apply below_alloc | apply pw_below_drewN | apply below_drew1 | refine below_set ?_ GE483.out | refine below_set ?_ GE484.out | refine below_set ?_ GE485.out) | exact HB.out)⟩⟩
             ·
              rw [if_neg c67] at H; exact absurd H (by simp)
            ·
             rw [if_neg c66] at H; exact absurd H (by simp)
           ·
            rw [if_neg c65] at H; have c65b0 : decide (0 ≤ x10_3) = false := decide_eq_false c65; clear c65; replace H := Option.bind_eq_some_iff.mp H; obtain ⟨⟨t497, t498⟩, A750, H⟩ := H; replace H : (some (t497, t498)) = some (r1, r2) := H; have A75 := Aside0.mk A750; clear A750; simp only [Option.some.injEq, Prod.mk.injEq] at H; obtain ⟨rfl, rfl⟩ := H
            go_wp2_with (first | (go_at_call 52; (with_reducible refine (spec_l06Make.calls x7_38 x9_3 t497 t498 _ A75.out).mono ?_); rintro e w76 ⟨rfl, hb⟩; replace BK485 := bb_ BK485 hb; replace HB := hb1_ HB hb GE485; (try clear hb); have hcz77_0 := cl_ (v := .int .i64 0) BK485 0; have hcz77_1 := cl_ (v := .int .i64 0) BK485 1; have hfz77_0 := blk_frozen BK485.out 0; have hfz77_1 := blk_frozen BK485.out 1))
            repeat (go_quiet (first | (go_at_call 52; (with_reducible refine (spec_l06Make.calls x7_38 x9_3 t497 t498 _ A75.out).mono ?_); rintro e w76 ⟨rfl, hb⟩; replace BK485 := bb_ BK485 hb; replace HB := hb1_ HB hb GE485; (try clear hb); have hcz77_0 := cl_ (v := .int .i64 0) BK485 0; have hcz77_1 := cl_ (v := .int .i64 0) BK485 1; have hfz77_0 := blk_frozen BK485.out 0; have hfz77_1 := blk_frozen BK485.out 1)); try go_wp2_with (first | (go_at_call 52; (with_reducible refine (spec_l06Make.calls x7_38 x9_3 t497 t498 _ A75.out).mono ?_); rintro e w76 ⟨rfl, hb⟩; replace BK485 := bb_ BK485 hb; replace HB := hb1_ HB hb GE485; (try clear hb); have hcz77_0 := cl_ (v := .int .i64 0) BK485 0; have hcz77_1 := cl_ (v := .int .i64 0) BK485 1; have hfz77_0 := blk_frozen BK485.out 0; have hfz77_1 := blk_frozen BK485.out 1)))
            refine bodyPost_ret (results_cell_row rfl _ _ gb485 25 #[.int .i64 t497, .int .i64 t498] (0, 0) _ rfl (bp_ BK485) Tryd.underlying25 rfl (by kernel_rfl)) rfl ?_; exact ⟨by first | rfl | (simp [errW_none, errW_some] <;> rfl) | (simp [*, errW_none, errW_some] <;> rfl), by repeat (first | (with_reducible first | exact HB.out | apply below_alloc | apply pw_below_drewN | apply below_drew1 | refine below_set ?_ GE485.out) | exact HB.out)⟩
        ·
         rw [if_neg c59] at H; have c59b0 : decide (a0_1 < a1_1) = false := decide_eq_false c59; clear c59; replace H := Option.bind_eq_some_iff.mp H; obtain ⟨⟨t499, t500⟩, A780, H⟩ := H; replace H : (some (t499, t500)) = some (r1, r2) := H; have A78 := Aside0.mk A780; clear A780; simp only [Option.some.injEq, Prod.mk.injEq] at H; obtain ⟨rfl, rfl⟩ := H; have hnb79 := NB483_484.out; have hnc79 := NB484_483.out; have hnb80 := NB483_485.out; have hnc80 := NB485_483.out; have hcz81_0 := cl_ (v := .int .i64 a0_0) BK483 0; have hcz81_1 := cl_ (v := .int .i64 a0_1) BK483 1; have hfz81_0 := blk_frozen BK483.out 0; have hfz81_1 := blk_frozen BK483.out 1; have hnb82 := NB484_485.out; have hnc82 := NB485_484.out; have hcz83_0 := cl_ (v := .int .i64 a1_0) BK484 0; have hcz83_1 := cl_ (v := .int .i64 a1_1) BK484 1; have hfz83_0 := blk_frozen BK484.out 0; have hfz83_1 := blk_frozen BK484.out 1
         go_wp2_with (first | (go_at_call 52; (with_reducible refine (spec_l06Make.calls x7_38 a0_1 t499 t500 _ A78.out).mono ?_); rintro e w84 ⟨rfl, hb⟩; replace BK485 := bb_ BK485 hb; replace HB := hb1_ HB hb GE485; (try clear hb); have hcz85_0 := cl_ (v := .int .i64 0) BK485 0; have hcz85_1 := cl_ (v := .int .i64 0) BK485 1; have hfz85_0 := blk_frozen BK485.out 0; have hfz85_1 := blk_frozen BK485.out 1))
         repeat (go_quiet (first | (go_at_call 52; (with_reducible refine (spec_l06Make.calls x7_38 a0_1 t499 t500 _ A78.out).mono ?_); rintro e w84 ⟨rfl, hb⟩; replace BK485 := bb_ BK485 hb; replace HB := hb1_ HB hb GE485; (try clear hb); have hcz85_0 := cl_ (v := .int .i64 0) BK485 0; have hcz85_1 := cl_ (v := .int .i64 0) BK485 1; have hfz85_0 := blk_frozen BK485.out 0; have hfz85_1 := blk_frozen BK485.out 1)); try go_wp2_with (first | (go_at_call 52; (with_reducible refine (spec_l06Make.calls x7_38 a0_1 t499 t500 _ A78.out).mono ?_); rintro e w84 ⟨rfl, hb⟩; replace BK485 := bb_ BK485 hb; replace HB := hb1_ HB hb GE485; (try clear hb); have hcz85_0 := cl_ (v := .int .i64 0) BK485 0; have hcz85_1 := cl_ (v := .int .i64 0) BK485 1; have hfz85_0 := blk_frozen BK485.out 0; have hfz85_1 := blk_frozen BK485.out 1)))
         refine bodyPost_ret (results_cell_row rfl _ _ gb485 25 #[.int .i64 t499, .int .i64 t500] (0, 0) _ rfl (bp_ BK485) Tryd.underlying25 rfl (by kernel_rfl)) rfl ?_; exact ⟨by first | rfl | (simp [errW_none, errW_some] <;> rfl) | (simp [*, errW_none, errW_some] <;> rfl), by repeat (first | (with_reducible first | exact HB.out | apply below_alloc | apply pw_below_drewN | apply below_drew1 | refine below_set ?_ GE485.out) | exact HB.out)⟩
     ·
      replace c38 := Bool.eq_false_iff.mpr c38; subst c38; have H1 := ifn_ H
      clear H; have H := H1; clear H1; simp only [Option.some.injEq, Prod.mk.injEq] at H; obtain ⟨rfl, rfl⟩ := H; have hnb86 := NB483_484.out; have hnc86 := NB484_483.out; have hnb87 := NB483_485.out; have hnc87 := NB485_483.out; have hcz88_0 := cl_ (v := .int .i64 a0_0) BK483 0; have hcz88_1 := cl_ (v := .int .i64 a0_1) BK483 1; have hfz88_0 := blk_frozen BK483.out 0; have hfz88_1 := blk_frozen BK483.out 1
      go_wp2_with (first | (go_at_call 55; (with_reducible refine (spec_l06Is.calls a0_0 a0_1 true _ A35.out).mono ?_); rintro e w89 ⟨rfl, hb⟩; replace BK483 := bb_ BK483 hb; replace BK484 := bb_ BK484 hb; replace BK485 := bb_ BK485 hb; replace HB := hb3_ HB hb GE483 GE484 GE485; (try clear hb); have hnb90 := NB484_485.out; have hnc90 := NB485_484.out; have hcz91_0 := cl_ (v := .int .i64 a1_0) BK484 0; have hcz91_1 := cl_ (v := .int .i64 a1_1) BK484 1; have hfz91_0 := blk_frozen BK484.out 0; have hfz91_1 := blk_frozen BK484.out 1) | (go_at_call 55; (with_reducible refine (spec_l06Is.calls a1_0 a1_1 false _ A37.out).mono ?_); rintro e w92 ⟨rfl, hb⟩; replace BK483 := bb_ BK483 hb; replace BK485 := bb_ BK485 hb; replace HB := hb2_ HB hb GE483 GE485; (try clear hb); have hcz93_0 := cl_ (v := .int .i64 a0_0) BK483 0; have hcz93_1 := cl_ (v := .int .i64 a0_1) BK483 1; have hfz93_0 := blk_frozen BK483.out 0; have hfz93_1 := blk_frozen BK483.out 1; have hcz94_0 := cl_ (v := .int .i64 0) BK485 0; have hcz94_1 := cl_ (v := .int .i64 0) BK485 1; have hfz94_0 := blk_frozen BK485.out 0; have hfz94_1 := blk_frozen BK485.out 1))
      repeat (go_quiet (first | (go_at_call 55; (with_reducible refine (spec_l06Is.calls a0_0 a0_1 true _ A35.out).mono ?_); rintro e w89 ⟨rfl, hb⟩; replace BK483 := bb_ BK483 hb; replace BK484 := bb_ BK484 hb; replace BK485 := bb_ BK485 hb; replace HB := hb3_ HB hb GE483 GE484 GE485; (try clear hb); have hnb90 := NB484_485.out; have hnc90 := NB485_484.out; have hcz91_0 := cl_ (v := .int .i64 a1_0) BK484 0; have hcz91_1 := cl_ (v := .int .i64 a1_1) BK484 1; have hfz91_0 := blk_frozen BK484.out 0; have hfz91_1 := blk_frozen BK484.out 1) | (go_at_call 55; (with_reducible refine (spec_l06Is.calls a1_0 a1_1 false _ A37.out).mono ?_); rintro e w92 ⟨rfl, hb⟩; replace BK483 := bb_ BK483 hb; replace BK485 := bb_ BK485 hb; replace HB := hb2_ HB hb GE483 GE485; (try clear hb); have hcz93_0 := cl_ (v := .int .i64 a0_0) BK483 0; have hcz93_1 := cl_ (v := .int .i64 a0_1) BK483 1; have hfz93_0 := blk_frozen BK483.out 0; have hfz93_1 := blk_frozen BK483.out 1; have hcz94_0 := cl_ (v := .int .i64 0) BK485 0; have hcz94_1 := cl_ (v := .int .i64 0) BK485 1; have hfz94_0 := blk_frozen BK485.out 0; have hfz94_1 := blk_frozen BK485.out 1)); try go_wp2_with (first | (go_at_call 55; (with_reducible refine (spec_l06Is.calls a0_0 a0_1 true _ A35.out).mono ?_); rintro e w89 ⟨rfl, hb⟩; replace BK483 := bb_ BK483 hb; replace BK484 := bb_ BK484 hb; replace BK485 := bb_ BK485 hb; replace HB := hb3_ HB hb GE483 GE484 GE485; (try clear hb); have hnb90 := NB484_485.out; have hnc90 := NB485_484.out; have hcz91_0 := cl_ (v := .int .i64 a1_0) BK484 0; have hcz91_1 := cl_ (v := .int .i64 a1_1) BK484 1; have hfz91_0 := blk_frozen BK484.out 0; have hfz91_1 := blk_frozen BK484.out 1) | (go_at_call 55; (with_reducible refine (spec_l06Is.calls a1_0 a1_1 false _ A37.out).mono ?_); rintro e w92 ⟨rfl, hb⟩; replace BK483 := bb_ BK483 hb; replace BK485 := bb_ BK485 hb; replace HB := hb2_ HB hb GE483 GE485; (try clear hb); have hcz93_0 := cl_ (v := .int .i64 a0_0) BK483 0; have hcz93_1 := cl_ (v := .int .i64 a0_1) BK483 1; have hfz93_0 := blk_frozen BK483.out 0; have hfz93_1 := blk_frozen BK483.out 1; have hcz94_0 := cl_ (v := .int .i64 0) BK485 0; have hcz94_1 := cl_ (v := .int .i64 0) BK485 1; have hfz94_0 := blk_frozen BK485.out 0; have hfz94_1 := blk_frozen BK485.out 1)))
      refine bodyPost_ret (results_cell_row rfl _ _ gb485 25 #[.int .i64 a0_0, .int .i64 a0_1] (0, 0) _ rfl (bp_ BK485) Tryd.underlying25 rfl (by kernel_rfl)) rfl ?_; exact ⟨by first | rfl | (simp [errW_none, errW_some] <;> rfl) | (simp [*, errW_none, errW_some] <;> rfl), by repeat (first | (with_reducible first | exact HB.out | apply below_alloc | apply pw_below_drewN | apply below_drew1 | refine below_set ?_ GE485.out) | exact HB.out)⟩
    ·
     replace c36 := Bool.eq_false_iff.mpr c36; subst c36; have H1 := ifn_ H
     clear H; have H := H1; clear H1; simp only [Option.some.injEq, Prod.mk.injEq] at H; obtain ⟨rfl, rfl⟩ := H; have hnb95 := NB483_484.out; have hnc95 := NB484_483.out; have hnb96 := NB483_485.out; have hnc96 := NB485_483.out; have hcz97_0 := cl_ (v := .int .i64 a0_0) BK483 0; have hcz97_1 := cl_ (v := .int .i64 a0_1) BK483 1; have hfz97_0 := blk_frozen BK483.out 0; have hfz97_1 := blk_frozen BK483.out 1
     go_wp2_with (first | (go_at_call 55; (with_reducible refine (spec_l06Is.calls a0_0 a0_1 false _ A35.out).mono ?_); rintro e w98 ⟨rfl, hb⟩; replace BK484 := bb_ BK484 hb; replace BK485 := bb_ BK485 hb; replace HB := hb2_ HB hb GE484 GE485; (try clear hb); have hnb99 := NB484_485.out; have hnc99 := NB485_484.out; have hcz100_0 := cl_ (v := .int .i64 a1_0) BK484 0; have hcz100_1 := cl_ (v := .int .i64 a1_1) BK484 1; have hfz100_0 := blk_frozen BK484.out 0; have hfz100_1 := blk_frozen BK484.out 1; have hcz101_0 := cl_ (v := .int .i64 0) BK485 0; have hcz101_1 := cl_ (v := .int .i64 0) BK485 1; have hfz101_0 := blk_frozen BK485.out 0; have hfz101_1 := blk_frozen BK485.out 1))
     repeat (go_quiet (first | (go_at_call 55; (with_reducible refine (spec_l06Is.calls a0_0 a0_1 false _ A35.out).mono ?_); rintro e w98 ⟨rfl, hb⟩; replace BK484 := bb_ BK484 hb; replace BK485 := bb_ BK485 hb; replace HB := hb2_ HB hb GE484 GE485; (try clear hb); have hnb99 := NB484_485.out; have hnc99 := NB485_484.out; have hcz100_0 := cl_ (v := .int .i64 a1_0) BK484 0; have hcz100_1 := cl_ (v := .int .i64 a1_1) BK484 1; have hfz100_0 := blk_frozen BK484.out 0; have hfz100_1 := blk_frozen BK484.out 1; have hcz101_0 := cl_ (v := .int .i64 0) BK485 0; have hcz101_1 := cl_ (v := .int .i64 0) BK485 1; have hfz101_0 := blk_frozen BK485.out 0; have hfz101_1 := blk_frozen BK485.out 1)); try go_wp2_with (first | (go_at_call 55; (with_reducible refine (spec_l06Is.calls a0_0 a0_1 false _ A35.out).mono ?_); rintro e w98 ⟨rfl, hb⟩; replace BK484 := bb_ BK484 hb; replace BK485 := bb_ BK485 hb; replace HB := hb2_ HB hb GE484 GE485; (try clear hb); have hnb99 := NB484_485.out; have hnc99 := NB485_484.out; have hcz100_0 := cl_ (v := .int .i64 a1_0) BK484 0; have hcz100_1 := cl_ (v := .int .i64 a1_1) BK484 1; have hfz100_0 := blk_frozen BK484.out 0; have hfz100_1 := blk_frozen BK484.out 1; have hcz101_0 := cl_ (v := .int .i64 0) BK485 0; have hcz101_1 := cl_ (v := .int .i64 0) BK485 1; have hfz101_0 := blk_frozen BK485.out 0; have hfz101_1 := blk_frozen BK485.out 1)))
     refine bodyPost_ret (results_cell_row rfl _ _ gb485 25 #[.int .i64 a1_0, .int .i64 a1_1] (0, 0) _ rfl (bp_ BK485) Tryd.underlying25 rfl (by kernel_rfl)) rfl ?_; exact ⟨by first | rfl | (simp [errW_none, errW_some] <;> rfl) | (simp [*, errW_none, errW_some] <;> rfl), by repeat (first | (with_reducible first | exact HB.out | apply below_alloc | apply pw_below_drewN | apply below_drew1 | refine below_set ?_ GE485.out) | exact HB.out)⟩

end Go.Proofs.YtmibaaicadgchaaDoor.Q
