/- Functions of the translation as Lean functions, each with a proof that a call answers so; out of the seat, by this claim's own program prt.py. -/
import Derived.Test.YtmibaaicadgchaaDoorWRepsOne
import Derived.Test.YtmibaaicadgchaaDoorQx0
import Derived.Test.YtmibaaicadgchaaDoorQx5
import Derived.Test.YtmibaaicadgchaaDoorQx20
import Derived.Test.YtmibaaicadgchaaDoorQx21
import Derived.Test.YtmibaaicadgchaaDoorQStep
namespace Go.Proofs.YtmibaaicadgchaaDoor.Q
open Go.RowKit Go.Proofs.YtmibaaicadgchaaDoorW.PrintWords Go.Proofs.YtmibaaicadgchaaDoorW.PrintLast Go.Proofs.YtmibaaicadgchaaDoorW.PrintMore
attribute [local go_sem] max2_int min2_int max_two min_two max_three min_three max_four min_four   -- for this text's walks alone
set_option linter.unusedVariables false
set_option linter.unusedSimpArgs false

/-! ### impl_RangeWiden: function 24 -/
mutual
def impl_RangeWiden.j0 : Nat → List Int → Bool → Int → Int → Int → Int → Option (Int × Int)
 | 0, _, _, _, _, _, _ => none
 | k + 1, x2, x24, x445000, x445001, x446000, x446001 => if x24 = true then (some (1, 0)) else ((impl_orOther.f x445000 x445001 x446000 x446001).bind fun bt450 => (if bt450.2.2 = true then (some (bt450.1, bt450.2.1)) else (if x445000 > x446000 then (impl_RangeWiden.j1 k x2 x445000 x445001 x446000 x446001 (-1000000) x445001) else (impl_RangeWiden.j1 k x2 x445000 x445001 x446000 x446001 x445000 x445001))))
def impl_RangeWiden.j1 : Nat → List Int → Int → Int → Int → Int → Int → Int → Option (Int × Int)
 | 0, _, _, _, _, _, _, _ => none
 | k + 1, x2, x445000, x445001, x446000, x446001, x455000, x455001 => if x445001 < x446001 then (impl_RangeWiden.j2 k x2 x445000 x445001 x446000 x446001 x455000 1000000) else (impl_RangeWiden.j2 k x2 x445000 x445001 x446000 x446001 x455000 x455001)
def impl_RangeWiden.j2 : Nat → List Int → Int → Int → Int → Int → Int → Int → Option (Int × Int)
 | 0, _, _, _, _, _, _, _ => none
 | k + 1, x2, x445000, x445001, x446000, x446001, x455000, x455001 => impl_RangeWiden.l0 k x2 (x2.length : Int) 0 x445000 x445001 x446000 x446001 x455000 x455001
def impl_RangeWiden.l0 : Nat → List Int → Int → Int → Int → Int → Int → Int → Int → Int → Option (Int × Int)
 | 0, _, _, _, _, _, _, _, _, _ => none
 | k + 1, x47, x48, x49, x445000, x445001, x446000, x446001, x455000, x455001 => if x49 < x48 then (if 0 ≤ x49 then (if x49 < (x47.length : Int) then (if x445000 > x446000 then (impl_RangeWiden.j4 k (rd x47 x49) x47 x48 x49 (decide ((rd x47 x49) ≤ x446000)) x445000 x445001 x446000 x446001 x455000 x455001) else (impl_RangeWiden.j4 k (rd x47 x49) x47 x48 x49 false x445000 x445001 x446000 x446001 x455000 x455001)) else (none)) else (none)) else (some (x455000, x455001))
def impl_RangeWiden.j4 : Nat → Int → List Int → Int → Int → Bool → Int → Int → Int → Int → Int → Int → Option (Int × Int)
 | 0, _, _, _, _, _, _, _, _, _, _, _ => none
 | k + 1, x11, x47, x48, x49, x63, x445000, x445001, x446000, x446001, x455000, x455001 => if x63 = true then (if x445001 < x446001 then (if x11 ≥ x446001 then (impl_RangeWiden.l0 k x47 x48 (wrap64 (x49 + 1)) x445000 x445001 x446000 x446001 (mx x455000 x11) (mn x455001 x11)) else (impl_RangeWiden.l0 k x47 x48 (wrap64 (x49 + 1)) x445000 x445001 x446000 x446001 (mx x455000 x11) x455001)) else (impl_RangeWiden.l0 k x47 x48 (wrap64 (x49 + 1)) x445000 x445001 x446000 x446001 (mx x455000 x11) x455001)) else (if x445001 < x446001 then (if x11 ≥ x446001 then (impl_RangeWiden.l0 k x47 x48 (wrap64 (x49 + 1)) x445000 x445001 x446000 x446001 x455000 (mn x455001 x11)) else (impl_RangeWiden.l0 k x47 x48 (wrap64 (x49 + 1)) x445000 x445001 x446000 x446001 x455000 x455001)) else (impl_RangeWiden.l0 k x47 x48 (wrap64 (x49 + 1)) x445000 x445001 x446000 x446001 x455000 x455001))
end
def impl_RangeWiden.f (k : Nat) (a0_0 : Int) (a0_1 : Int) (a1_0 : Int) (a1_1 : Int) (l2 : List Int) : Option (Int × Int) := (impl_RangeOk.f a0_0 a0_1).bind fun t447 => (if t447 = true then ((impl_RangeOk.f a1_0 a1_1).bind fun t448 => (if t448 = true then ((impl_stepsOk.f k l2).bind fun t449 => (impl_RangeWiden.j0 k l2 (!t449) a0_0 a0_1 a1_0 a1_1)) else (impl_RangeWiden.j0 k l2 true a0_0 a0_1 a1_0 a1_1))) else (impl_RangeWiden.j0 k l2 true a0_0 a0_1 a1_0 a1_1))
theorem impl_RangeWiden.mono_l : ∀ k, (∀ y0 y1 y2 y3 y4 y5, LeO (impl_RangeWiden.j0 k y0 y1 y2 y3 y4 y5) (impl_RangeWiden.j0 (k + 1) y0 y1 y2 y3 y4 y5)) ∧ (∀ y0 y1 y2 y3 y4 y5 y6, LeO (impl_RangeWiden.j1 k y0 y1 y2 y3 y4 y5 y6) (impl_RangeWiden.j1 (k + 1) y0 y1 y2 y3 y4 y5 y6)) ∧ (∀ y0 y1 y2 y3 y4 y5 y6, LeO (impl_RangeWiden.j2 k y0 y1 y2 y3 y4 y5 y6) (impl_RangeWiden.j2 (k + 1) y0 y1 y2 y3 y4 y5 y6)) ∧ (∀ y0 y1 y2 y3 y4 y5 y6 y7 y8, LeO (impl_RangeWiden.l0 k y0 y1 y2 y3 y4 y5 y6 y7 y8) (impl_RangeWiden.l0 (k + 1) y0 y1 y2 y3 y4 y5 y6 y7 y8)) ∧ (∀ y0 y1 y2 y3 y4 y5 y6 y7 y8 y9 y10, LeO (impl_RangeWiden.j4 k y0 y1 y2 y3 y4 y5 y6 y7 y8 y9 y10) (impl_RangeWiden.j4 (k + 1) y0 y1 y2 y3 y4 y5 y6 y7 y8 y9 y10))
 | 0 => ⟨fun _ _ _ _ _ _ r h => by simp [impl_RangeWiden.j0] at h, fun _ _ _ _ _ _ _ r h => by simp [impl_RangeWiden.j1] at h, fun _ _ _ _ _ _ _ r h => by simp [impl_RangeWiden.j2] at h, fun _ _ _ _ _ _ _ _ _ r h => by simp [impl_RangeWiden.l0] at h, fun _ _ _ _ _ _ _ _ _ _ _ r h => by simp [impl_RangeWiden.j4] at h⟩
 | k + 1 => by
  obtain ⟨ih0, ih1, ih2, ih3, ih4⟩ := impl_RangeWiden.mono_l k; refine ⟨?_, ?_, ?_, ?_, ?_⟩
  ·
   intro y0 y1 y2 y3 y4 y5; unfold impl_RangeWiden.j0
   repeat' first
   | (with_reducible exact ih0 _ _ _ _ _ _)
   | (with_reducible exact ih1 _ _ _ _ _ _ _)
   | (with_reducible exact ih2 _ _ _ _ _ _ _)
   | (with_reducible exact ih3 _ _ _ _ _ _ _ _ _)
   | (with_reducible exact ih4 _ _ _ _ _ _ _ _ _ _ _)
   | (with_reducible exact impl_stepsOk.mono _ _)
   | (with_reducible exact LeO.refl _)
   | (with_reducible exact LeO.none _)
   | (with_reducible refine LeO.ite ?_ ?_)
   | (with_reducible refine LeO.bind ?_ (fun _ => ?_))
   | exact ih0 _ _ _ _ _ _
   | exact ih1 _ _ _ _ _ _ _
   | exact ih2 _ _ _ _ _ _ _
   | exact ih3 _ _ _ _ _ _ _ _ _
   | exact ih4 _ _ _ _ _ _ _ _ _ _ _
   | exact impl_stepsOk.mono _ _
   | exact LeO.none _
   | refine LeO.ite ?_ ?_
   | refine LeO.bind ?_ (fun _ => ?_)
  ·
   intro y0 y1 y2 y3 y4 y5 y6; unfold impl_RangeWiden.j1
   repeat' first
   | (with_reducible exact ih0 _ _ _ _ _ _)
   | (with_reducible exact ih1 _ _ _ _ _ _ _)
   | (with_reducible exact ih2 _ _ _ _ _ _ _)
   | (with_reducible exact ih3 _ _ _ _ _ _ _ _ _)
   | (with_reducible exact ih4 _ _ _ _ _ _ _ _ _ _ _)
   | (with_reducible exact impl_stepsOk.mono _ _)
   | (with_reducible exact LeO.refl _)
   | (with_reducible exact LeO.none _)
   | (with_reducible refine LeO.ite ?_ ?_)
   | (with_reducible refine LeO.bind ?_ (fun _ => ?_))
   | exact ih0 _ _ _ _ _ _
   | exact ih1 _ _ _ _ _ _ _
   | exact ih2 _ _ _ _ _ _ _
   | exact ih3 _ _ _ _ _ _ _ _ _
   | exact ih4 _ _ _ _ _ _ _ _ _ _ _
   | exact impl_stepsOk.mono _ _
   | exact LeO.none _
   | refine LeO.ite ?_ ?_
   | refine LeO.bind ?_ (fun _ => ?_)
  ·
   intro y0 y1 y2 y3 y4 y5 y6; unfold impl_RangeWiden.j2
   repeat' first
   | (with_reducible exact ih0 _ _ _ _ _ _)
   | (with_reducible exact ih1 _ _ _ _ _ _ _)
   | (with_reducible exact ih2 _ _ _ _ _ _ _)
   | (with_reducible exact ih3 _ _ _ _ _ _ _ _ _)
   | (with_reducible exact ih4 _ _ _ _ _ _ _ _ _ _ _)
   | (with_reducible exact impl_stepsOk.mono _ _)
   | (with_reducible exact LeO.refl _)
   | (with_reducible exact LeO.none _)
   | (with_reducible refine LeO.ite ?_ ?_)
   | (with_reducible refine LeO.bind ?_ (fun _ => ?_))
   | exact ih0 _ _ _ _ _ _
   | exact ih1 _ _ _ _ _ _ _
   | exact ih2 _ _ _ _ _ _ _
   | exact ih3 _ _ _ _ _ _ _ _ _
   | exact ih4 _ _ _ _ _ _ _ _ _ _ _
   | exact impl_stepsOk.mono _ _
   | exact LeO.none _
   | refine LeO.ite ?_ ?_
   | refine LeO.bind ?_ (fun _ => ?_)
  ·
   intro y0 y1 y2 y3 y4 y5 y6 y7 y8; unfold impl_RangeWiden.l0
   repeat' first
   | (with_reducible exact ih0 _ _ _ _ _ _)
   | (with_reducible exact ih1 _ _ _ _ _ _ _)
   | (with_reducible exact ih2 _ _ _ _ _ _ _)
   | (with_reducible exact ih3 _ _ _ _ _ _ _ _ _)
   | (with_reducible exact ih4 _ _ _ _ _ _ _ _ _ _ _)
   | (with_reducible exact impl_stepsOk.mono _ _)
   | (with_reducible exact LeO.refl _)
   | (with_reducible exact LeO.none _)
   | (with_reducible refine LeO.ite ?_ ?_)
   | (with_reducible refine LeO.bind ?_ (fun _ => ?_))
   | exact ih0 _ _ _ _ _ _
   | exact ih1 _ _ _ _ _ _ _
   | exact ih2 _ _ _ _ _ _ _
   | exact ih3 _ _ _ _ _ _ _ _ _
   | exact ih4 _ _ _ _ _ _ _ _ _ _ _
   | exact impl_stepsOk.mono _ _
   | exact LeO.none _
   | refine LeO.ite ?_ ?_
   | refine LeO.bind ?_ (fun _ => ?_)
  ·
   intro y0 y1 y2 y3 y4 y5 y6 y7 y8 y9 y10; unfold impl_RangeWiden.j4
   repeat' first
   | (with_reducible exact ih0 _ _ _ _ _ _)
   | (with_reducible exact ih1 _ _ _ _ _ _ _)
   | (with_reducible exact ih2 _ _ _ _ _ _ _)
   | (with_reducible exact ih3 _ _ _ _ _ _ _ _ _)
   | (with_reducible exact ih4 _ _ _ _ _ _ _ _ _ _ _)
   | (with_reducible exact impl_stepsOk.mono _ _)
   | (with_reducible exact LeO.refl _)
   | (with_reducible exact LeO.none _)
   | (with_reducible refine LeO.ite ?_ ?_)
   | (with_reducible refine LeO.bind ?_ (fun _ => ?_))
   | exact ih0 _ _ _ _ _ _
   | exact ih1 _ _ _ _ _ _ _
   | exact ih2 _ _ _ _ _ _ _
   | exact ih3 _ _ _ _ _ _ _ _ _
   | exact ih4 _ _ _ _ _ _ _ _ _ _ _
   | exact impl_stepsOk.mono _ _
   | exact LeO.none _
   | refine LeO.ite ?_ ?_
   | refine LeO.bind ?_ (fun _ => ?_)
theorem impl_RangeWiden.mono : ∀ a0 a1 a2 a3 a4 k, LeO (impl_RangeWiden.f k a0 a1 a2 a3 a4) (impl_RangeWiden.f (k + 1) a0 a1 a2 a3 a4) := by
 intro a0 a1 a2 a3 a4 k; obtain ⟨ih0, ih1, ih2, ih3, ih4⟩ := impl_RangeWiden.mono_l k; unfold impl_RangeWiden.f
 repeat' first
   | (with_reducible exact ih0 _ _ _ _ _ _)
   | (with_reducible exact ih1 _ _ _ _ _ _ _)
   | (with_reducible exact ih2 _ _ _ _ _ _ _)
   | (with_reducible exact ih3 _ _ _ _ _ _ _ _ _)
   | (with_reducible exact ih4 _ _ _ _ _ _ _ _ _ _ _)
   | (with_reducible exact impl_stepsOk.mono _ _)
   | (with_reducible exact LeO.refl _)
   | (with_reducible exact LeO.none _)
   | (with_reducible refine LeO.ite ?_ ?_)
   | (with_reducible refine LeO.bind ?_ (fun _ => ?_))
   | exact ih0 _ _ _ _ _ _
   | exact ih1 _ _ _ _ _ _ _
   | exact ih2 _ _ _ _ _ _ _
   | exact ih3 _ _ _ _ _ _ _ _ _
   | exact ih4 _ _ _ _ _ _ _ _ _ _ _
   | exact impl_stepsOk.mono _ _
   | exact LeO.none _
   | refine LeO.ite ?_ ?_
   | refine LeO.bind ?_ (fun _ => ?_)
set_option maxHeartbeats 8000000 in
set_option maxRecDepth 100000 in
theorem impl_RangeWiden.calls (k : Nat) (a0_0 : Int) (a0_1 : Int) (a1_0 : Int) (a1_1 : Int) (A2 : Option Addr) (c2 : Nat) (l2 : List Int) (r1 : Int) (r2 : Int) (w : World) (hG0 : GL0 w) (hr2 : Kd.C (Kd.int .i64) w A2 l2.length l2) (hc2 : l2.length ≤ c2) (h : impl_RangeWiden.f k a0_0 a0_1 a1_0 a1_1 l2 = some (r1, r2)) :
  Calls Tryd.prog 24 #[.agg #[.int .i64 a0_0, .int .i64 a0_1], .agg #[.int .i64 a1_0, .int .i64 a1_1], .slice A2 l2.length c2] w fun e w' => e = .returned (.agg #[.int .i64 r1, .int .i64 r2]) ∧ Below w.heap.size w w' := by
 have hu25 := Tryd.underlying25; have HR2 := Aside0.mk hr2; have HC2 := Aside0.mk hc2; clear hr2 hc2; have HB := Aside0.mk (Below.refl w.heap.size w); have HG0 := Aside0.mk hG0; clear hG0; have H : ((impl_RangeOk.f a0_0 a0_1).bind fun t447 => (if t447 = true then ((impl_RangeOk.f a1_0 a1_1).bind fun t448 => (if t448 = true then ((impl_stepsOk.f k l2).bind fun t449 => (impl_RangeWiden.j0 k l2 (!t449) a0_0 a0_1 a1_0 a1_1)) else (impl_RangeWiden.j0 k l2 true a0_0 a0_1 a1_0 a1_1))) else (impl_RangeWiden.j0 k l2 true a0_0 a0_1 a1_0 a1_1))) = some (r1, r2) := h; clear h; have HC4 := Aside0.mk H; clear H
 go_enter Tryd.func24, Tryd.ntmps24
 go_upto_region 1 with (first | ((with_reducible refine gate_dst (N := 3) rfl ?_); refine box_y 3 #[.int .i64 a0_0, .int .i64 a0_1] 25 (h := ?_); intro gb444 hg w5 hbox hb; have n0_ := Aside0.mk (below_step (sq_below HB.out) hb); have n1_ := Aside0.mk (hbox); have n2_ := ge_ hg (below_size (sq_below HB.out)); have n3_ := ge_ hg (below_size (sq_below HB.out)); clear HB; have HB := n0_; have BK444 := n1_; have GW444 := n2_; have GE444 := n3_; clear n0_ n1_ n2_ n3_; clear hb hbox hg) | ((with_reducible refine gate_dst (N := 4) rfl ?_); refine box_y 4 #[.int .i64 a1_0, .int .i64 a1_1] 25 (h := ?_); intro gb445 hg w6 hbox hb; have n0_ := Aside0.mk (blk_below (sq_blk BK444.out) hb); have n1_ := Aside0.mk (below_step (sq_below1 HB.out GE444.out) hb); have n2_ := Aside0.mk (hbox); have n3_ := ge_ hg (below_size (sq_below1 HB.out GE444.out)); have n4_ := ge_ hg (below_size (sq_below1 HB.out GE444.out)); have n5_ := nb_ hg BK444; have n6_ := Aside0.mk (Ne.symm n5_.out); clear BK444; clear HB; have BK444 := n0_; have HB := n1_; have BK445 := n2_; have GW445 := n3_; have GE445 := n4_; have NB444_445 := n5_; have NB445_444 := n6_; clear n0_ n1_ n2_ n3_ n4_ n5_ n6_; clear hb hbox hg) | ((with_reducible refine gate_dst (N := 6) rfl ?_); refine box_y 6 #[.int .i64 0, .int .i64 0] 25 (h := ?_); intro gb446 hg w7 hbox hb; have n0_ := Aside0.mk (blk_below (sq_blk BK444.out) hb); have n1_ := Aside0.mk (blk_below (sq_blk BK445.out) hb); have n2_ := Aside0.mk (below_step (sq_below2 HB.out GE444.out GE445.out) hb); have n3_ := Aside0.mk (hbox); have n4_ := ge_ hg (below_size (sq_below2 HB.out GE444.out GE445.out)); have n5_ := ge_ hg (below_size (sq_below2 HB.out GE444.out GE445.out)); have n6_ := nb_ hg BK444; have n7_ := Aside0.mk (Ne.symm n6_.out); have n8_ := nb_ hg BK445; have n9_ := Aside0.mk (Ne.symm n8_.out); clear BK444; clear BK445; clear HB; have BK444 := n0_; have BK445 := n1_; have HB := n2_; have BK446 := n3_; have GW446 := n4_; have GE446 := n5_; have NB444_446 := n6_; have NB446_444 := n7_; have NB445_446 := n8_; have NB446_445 := n9_; clear n0_ n1_ n2_ n3_ n4_ n5_ n6_ n7_ n8_ n9_; clear hb hbox hg))
 (try simp only [Act.put, List.setIfInBounds_toArray, List.set_cons_zero, List.set_cons_succ])
 go_cut [24] (fun v24 wc => ∃ (kq : Nat) (x24_3 : Bool), v24 = .bool x24_3 ∧ Aside0 (impl_RangeWiden.j0 kq l2 x24_3 a0_0 a0_1 a1_0 a1_1 = some (r1, r2)) ∧ Aside0 (kq ≤ k) ∧ Aside0 (wc.heap[gb444]? = some (.cells #[.int .i64 a0_0, .int .i64 a0_1] 25 (0, 0))) ∧ Aside0 (wc.heap[gb445]? = some (.cells #[.int .i64 a1_0, .int .i64 a1_1] 25 (0, 0))) ∧ Aside0 (wc.heap[gb446]? = some (.cells #[.int .i64 0, .int .i64 0] 25 (0, 0))) ∧ Aside0 (Below w.heap.size w wc))
 case first =>
  have H := HC4.out; clear HC4; replace H := Option.bind_eq_some_iff.mp H; obtain ⟨t447, A80, H⟩ := H; (try dsimp only at H); have A8 := Aside0.mk A80; clear A80
  by_cases c9 : t447 = true
  ·
   subst c9; have H1 := ifp_ H
   clear H; have H := H1; clear H1; replace H := Option.bind_eq_some_iff.mp H; obtain ⟨t448, A100, H⟩ := H; (try dsimp only at H); have A10 := Aside0.mk A100; clear A100
   by_cases c11 : t448 = true
   ·
    subst c11; have H1 := ifp_ H
    clear H; have H := H1; clear H1; replace H := Option.bind_eq_some_iff.mp H; obtain ⟨t449, A120, H⟩ := H; (try dsimp only at H); have A12 := Aside0.mk A120; clear A120; have H' := Aside0.mk H; clear H; have hnb13 := NB444_445.out; have hnc13 := NB445_444.out; have hnb14 := NB444_446.out; have hnc14 := NB446_444.out; have hcz15_0 := cl_ (v := .int .i64 a0_0) BK444 0; have hcz15_1 := cl_ (v := .int .i64 a0_1) BK444 1; have hfz15_0 := blk_frozen BK444.out 0; have hfz15_1 := blk_frozen BK444.out 1
    go_wp2_with (first | ((with_reducible refine gate_callee (f := 57) rfl ?_); refine gl_ 13 Tryd.func57 #[.agg #[.int .i64 a0_0, .int .i64 a0_1]] (h := ?_); (with_reducible refine (impl_RangeOk.calls a0_0 a0_1 true _ ?side1 A8.out).mono ?_); (case side1 => exact GL0.below HG0.out (sq_below3 HB.out GE444.out GE445.out GE446.out)); rintro e w16 ⟨rfl, hb⟩; refine ⟨_, rfl, ?_⟩; replace BK444 := bb_ BK444 hb; replace BK445 := bb_ BK445 hb; replace BK446 := bb_ BK446 hb; replace HB := hb3_ HB hb GE444 GE445 GE446; (try clear hb); have hnb17 := NB445_446.out; have hnc17 := NB446_445.out; have hcz18_0 := cl_ (v := .int .i64 a1_0) BK445 0; have hcz18_1 := cl_ (v := .int .i64 a1_1) BK445 1; have hfz18_0 := blk_frozen BK445.out 0; have hfz18_1 := blk_frozen BK445.out 1) | (go_at_call 57; (with_reducible refine (impl_RangeOk.calls a1_0 a1_1 true _ ?side1 A10.out).mono ?_); (case side1 => exact GL0.below HG0.out (sq_below3 HB.out GE444.out GE445.out GE446.out)); rintro e w19 ⟨rfl, hb⟩; replace BK444 := bb_ BK444 hb; replace BK445 := bb_ BK445 hb; replace BK446 := bb_ BK446 hb; replace HB := hb3_ HB hb GE444 GE445 GE446; (try clear hb)) | (go_at_call 60; (with_reducible refine (impl_stepsOk.calls k _ _ l2 t449 _ ?side1 ?side2 A12.out).mono ?_); (case side1 => exact sq_c (Kd.C_below HR2.out HB.out)); (case side2 => exact HC2.out); rintro e w' ⟨rfl, ⟨nd, rfl⟩⟩))
    go_meet
    case rel => exact ⟨_, (!t449), (by first | rfl | (simp; done) | (simp [*]; done)), H', ⟨by first | omega | exact Nat.le_refl _⟩, bk_ BK444, bk_ BK445, bk_ BK446, ⟨by repeat (first | (with_reducible first | exact HB.out | apply below_alloc | apply pw_below_drewN | apply below_drew1 | refine below_set ?_ GE444.out | refine below_set ?_ GE445.out | refine below_set ?_ GE446.out) | exact HB.out)⟩⟩
   ·
    replace c11 := Bool.eq_false_iff.mpr c11; subst c11; have H1 := ifn_ H
    clear H; have H := H1; clear H1; have H' := Aside0.mk H; clear H; have hnb20 := NB444_445.out; have hnc20 := NB445_444.out; have hnb21 := NB444_446.out; have hnc21 := NB446_444.out; have hcz22_0 := cl_ (v := .int .i64 a0_0) BK444 0; have hcz22_1 := cl_ (v := .int .i64 a0_1) BK444 1; have hfz22_0 := blk_frozen BK444.out 0; have hfz22_1 := blk_frozen BK444.out 1
    go_wp2_with (first | ((with_reducible refine gate_callee (f := 57) rfl ?_); refine gl_ 13 Tryd.func57 #[.agg #[.int .i64 a0_0, .int .i64 a0_1]] (h := ?_); (with_reducible refine (impl_RangeOk.calls a0_0 a0_1 true _ ?side1 A8.out).mono ?_); (case side1 => exact GL0.below HG0.out (sq_below3 HB.out GE444.out GE445.out GE446.out)); rintro e w23 ⟨rfl, hb⟩; refine ⟨_, rfl, ?_⟩; replace BK444 := bb_ BK444 hb; replace BK445 := bb_ BK445 hb; replace BK446 := bb_ BK446 hb; replace HB := hb3_ HB hb GE444 GE445 GE446; (try clear hb); have hnb24 := NB445_446.out; have hnc24 := NB446_445.out; have hcz25_0 := cl_ (v := .int .i64 a1_0) BK445 0; have hcz25_1 := cl_ (v := .int .i64 a1_1) BK445 1; have hfz25_0 := blk_frozen BK445.out 0; have hfz25_1 := blk_frozen BK445.out 1) | (go_at_call 57; (with_reducible refine (impl_RangeOk.calls a1_0 a1_1 false _ ?side1 A10.out).mono ?_); (case side1 => exact GL0.below HG0.out (sq_below3 HB.out GE444.out GE445.out GE446.out)); rintro e w26 ⟨rfl, hb⟩; replace BK444 := bb_ BK444 hb; replace BK445 := bb_ BK445 hb; replace BK446 := bb_ BK446 hb; replace HB := hb3_ HB hb GE444 GE445 GE446; (try clear hb)))
    go_meet
    case rel => exact ⟨_, (true), (by first | rfl | (simp; done) | (simp [*]; done)), H', ⟨by first | omega | exact Nat.le_refl _⟩, bk_ BK444, bk_ BK445, bk_ BK446, ⟨by repeat (first | (with_reducible first | exact HB.out | apply below_alloc | apply pw_below_drewN | apply below_drew1 | refine below_set ?_ GE444.out | refine below_set ?_ GE445.out | refine below_set ?_ GE446.out) | exact HB.out)⟩⟩
  ·
   replace c9 := Bool.eq_false_iff.mpr c9; subst c9; have H1 := ifn_ H
   clear H; have H := H1; clear H1; have H' := Aside0.mk H; clear H; have hnb27 := NB444_445.out; have hnc27 := NB445_444.out; have hnb28 := NB444_446.out; have hnc28 := NB446_444.out; have hcz29_0 := cl_ (v := .int .i64 a0_0) BK444 0; have hcz29_1 := cl_ (v := .int .i64 a0_1) BK444 1; have hfz29_0 := blk_frozen BK444.out 0; have hfz29_1 := blk_frozen BK444.out 1
   go_wp2_with (first | ((with_reducible refine gate_callee (f := 57) rfl ?_); refine gl_ 13 Tryd.func57 #[.agg #[.int .i64 a0_0, .int .i64 a0_1]] (h := ?_); (with_reducible refine (impl_RangeOk.calls a0_0 a0_1 false _ ?side1 A8.out).mono ?_); (case side1 => exact GL0.below HG0.out (sq_below3 HB.out GE444.out GE445.out GE446.out)); rintro e w30 ⟨rfl, hb⟩; refine ⟨_, rfl, ?_⟩; replace BK444 := bb_ BK444 hb; replace BK445 := bb_ BK445 hb; replace BK446 := bb_ BK446 hb; replace HB := hb3_ HB hb GE444 GE445 GE446; (try clear hb)))
   go_meet
   case rel => exact ⟨_, (true), (by first | rfl | (simp; done) | (simp [*]; done)), H', ⟨by first | omega | exact Nat.le_refl _⟩, bk_ BK444, bk_ BK445, bk_ BK446, ⟨by repeat (first | (with_reducible first | exact HB.out | apply below_alloc | apply pw_below_drewN | apply below_drew1 | refine below_set ?_ GE444.out | refine below_set ?_ GE445.out | refine below_set ?_ GE446.out) | exact HB.out)⟩⟩
 case rest =>
  clear HC4
  try clear c1
  try clear c2
  try clear p2
  try clear c5
  try clear c9
  try clear c11
  try clear c13
  try clear c14
  try clear c17
  try clear c20
  try clear c21
  try clear c24
  try clear c27
  try clear c28
  try clear hcz15_0
  try clear hcz15_1
  try clear hcz18_0
  try clear hcz18_1
  try clear hcz22_0
  try clear hcz22_1
  try clear hcz25_0
  try clear hcz25_1
  try clear hcz29_0
  try clear hcz29_1
  try clear hfz15_0
  try clear hfz15_1
  try clear hfz18_0
  try clear hfz18_1
  try clear hfz22_0
  try clear hfz22_1
  try clear hfz25_0
  try clear hfz25_1
  try clear hfz29_0
  try clear hfz29_1
  obtain ⟨kq, x24_3, rfl, HA, HJ3, BK444, BK445, BK446, HB⟩ := hcut; cases kq with
  | zero => exact absurd HA.out (by simp [impl_RangeWiden.j0])
  | succ kj3 =>
   have H := HA.out; clear HA; simp only [impl_RangeWiden.j0] at H
   by_cases c31 : x24_3 = true
   ·
    subst c31; have H1 := ifp_ H
    clear H; have H := H1; clear H1; simp only [Option.some.injEq, Prod.mk.injEq] at H; obtain ⟨rfl, rfl⟩ := H; have hgl32_0 : wc.cell? ⟨0, 0, none⟩ = some (.int .i64 1) := GL0.c0 (GL0.below HG0.out HB.out); have hgl32_1 : wc.cell? ⟨0, 1, none⟩ = some (.int .i64 0) := GL0.c1 (GL0.below HG0.out HB.out); have hnggl32_446 : gb446 ≠ 0 := (by first | exact Nat.ne_of_gt (Nat.lt_of_lt_of_le (World.block_lt_of_cell? _ _ (GL0.c0 HG0.out)) GE446.out) | exact Nat.ne_of_gt (Nat.lt_of_lt_of_le (World.block_lt_of_cell? _ _ (GL0.c0 HG0.out)) GW446.out)); have hnhgl32_446 := Ne.symm hnggl32_446; have hcz33_0 := cl_ (v := .int .i64 0) BK446 0; have hcz33_1 := cl_ (v := .int .i64 0) BK446 1; have hfz33_0 := blk_frozen BK446.out 0; have hfz33_1 := blk_frozen BK446.out 1
    go_wp2
    refine bodyPost_ret (results_cell_row rfl _ _ gb446 25 #[.int .i64 1, .int .i64 0] (0, 0) _ rfl (bp_ BK446) Tryd.underlying25 rfl (by kernel_rfl)) rfl ?_; exact ⟨by first | rfl | (simp [errW_none, errW_some] <;> rfl) | (simp [*, errW_none, errW_some] <;> rfl), by repeat (first | (with_reducible first | exact HB.out | apply below_alloc | apply pw_below_drewN | apply below_drew1 | refine below_set ?_ GE446.out) | exact HB.out)⟩
   ·
    replace c31 := Bool.eq_false_iff.mpr c31; subst c31; have H1 := ifn_ H
    clear H; have H := H1; clear H1; replace H := Option.bind_eq_some_iff.mp H; obtain ⟨⟨t450, t451, t452⟩, A340, H⟩ := H; (try dsimp only at H); have A34 := Aside0.mk A340; clear A340
    by_cases c35 : t452 = true
    ·
     subst c35; have H1 := ifp_ H
     clear H; have H := H1; clear H1; simp only [Option.some.injEq, Prod.mk.injEq] at H; obtain ⟨rfl, rfl⟩ := H; have hnb36 := NB444_445.out; have hnc36 := NB445_444.out; have hnb37 := NB444_446.out; have hnc37 := NB446_444.out; have hcz38_0 := cl_ (v := .int .i64 a0_0) BK444 0; have hcz38_1 := cl_ (v := .int .i64 a0_1) BK444 1; have hfz38_0 := blk_frozen BK444.out 0; have hfz38_1 := blk_frozen BK444.out 1; have hnb39 := NB445_446.out; have hnc39 := NB446_445.out; have hcz40_0 := cl_ (v := .int .i64 a1_0) BK445 0; have hcz40_1 := cl_ (v := .int .i64 a1_1) BK445 1; have hfz40_0 := blk_frozen BK445.out 0; have hfz40_1 := blk_frozen BK445.out 1
     go_wp2_with (first | ((with_reducible refine gate_callee (f := 59) rfl ?_); refine gl_ 29 Tryd.func59 #[.agg #[.int .i64 a0_0, .int .i64 a0_1], .agg #[.int .i64 a1_0, .int .i64 a1_1]] (h := ?_); (with_reducible refine (impl_orOther.calls a0_0 a0_1 a1_0 a1_1 t450 t451 true _ ?side1 A34.out).mono ?_); (case side1 => exact GL0.below HG0.out (sq_below1 HB.out GE446.out)); rintro e w41 ⟨rfl, hb⟩; refine ⟨_, rfl, ?_⟩; replace BK446 := bb_ BK446 hb; replace HB := hb1_ HB hb GE446; (try clear hb)) | ((with_reducible refine gate_dst (N := 7) rfl ?_); refine box_y 7 #[.int .i64 0, .int .i64 0] 25 (h := ?_); intro gb453 hg w42 hbox hb; have n0_ := Aside0.mk (blk_below (sq_blk BK446.out) hb); have n1_ := Aside0.mk (below_step (sq_below1 HB.out GE446.out) hb); have n2_ := Aside0.mk (hbox); have n3_ := ge_ hg (below_size (sq_below1 HB.out GE446.out)); have n4_ := ge_ hg (below_size (sq_below1 HB.out GE446.out)); have n5_ := nb_ hg BK446; have n6_ := Aside0.mk (Ne.symm n5_.out); clear BK446; clear HB; have BK446 := n0_; have HB := n1_; have BK453 := n2_; have GW453 := n3_; have GE453 := n4_; have NB446_453 := n5_; have NB453_446 := n6_; clear n0_ n1_ n2_ n3_ n4_ n5_ n6_; clear hb hbox hg; have hnb43 := NB453_446.out; have hnc43 := NB446_453.out; have hcz44_0 := cl_ (v := .int .i64 0) BK453 0; have hcz44_1 := cl_ (v := .int .i64 0) BK453 1; have hfz44_0 := blk_frozen BK453.out 0; have hfz44_1 := blk_frozen BK453.out 1; have hcz45_0 := cl_ (v := .int .i64 0) BK446 0; have hcz45_1 := cl_ (v := .int .i64 0) BK446 1; have hfz45_0 := blk_frozen BK446.out 0; have hfz45_1 := blk_frozen BK446.out 1))
     refine bodyPost_ret (results_cell_row rfl _ _ gb446 25 #[.int .i64 t450, .int .i64 t451] (0, 0) _ rfl (bp1_ BK446 NB446_453) Tryd.underlying25 rfl (by kernel_rfl)) rfl ?_; exact ⟨by first | rfl | (simp [errW_none, errW_some] <;> rfl) | (simp [*, errW_none, errW_some] <;> rfl), by repeat (first | (with_reducible first | exact HB.out | apply below_alloc | apply pw_below_drewN | apply below_drew1 | refine below_set ?_ GE446.out | refine below_set ?_ GE453.out) | exact HB.out)⟩
    ·
     replace c35 := Bool.eq_false_iff.mpr c35; subst c35; have H1 := ifn_ H
     clear H; have H := H1; clear H1; have HC46 := Aside0.mk H; clear H; have hnb47 := NB444_445.out; have hnc47 := NB445_444.out; have hnb48 := NB444_446.out; have hnc48 := NB446_444.out; have hcz49_0 := cl_ (v := .int .i64 a0_0) BK444 0; have hcz49_1 := cl_ (v := .int .i64 a0_1) BK444 1; have hfz49_0 := blk_frozen BK444.out 0; have hfz49_1 := blk_frozen BK444.out 1; have hnb50 := NB445_446.out; have hnc50 := NB446_445.out; have hcz51_0 := cl_ (v := .int .i64 a1_0) BK445 0; have hcz51_1 := cl_ (v := .int .i64 a1_1) BK445 1; have hfz51_0 := blk_frozen BK445.out 0; have hfz51_1 := blk_frozen BK445.out 1
     go_upto_if 39 with (first | ((with_reducible refine gate_callee (f := 59) rfl ?_); refine gl_ 29 Tryd.func59 #[.agg #[.int .i64 a0_0, .int .i64 a0_1], .agg #[.int .i64 a1_0, .int .i64 a1_1]] (h := ?_); (with_reducible refine (impl_orOther.calls a0_0 a0_1 a1_0 a1_1 t450 t451 false _ ?side1 A34.out).mono ?_); (case side1 => exact GL0.below HG0.out (sq_below3 HB.out GE444.out GE445.out GE446.out)); rintro e w52 ⟨rfl, hb⟩; refine ⟨_, rfl, ?_⟩; replace BK444 := bb_ BK444 hb; replace BK445 := bb_ BK445 hb; replace BK446 := bb_ BK446 hb; replace HB := hb3_ HB hb GE444 GE445 GE446; (try clear hb)) | ((with_reducible refine gate_dst (N := 7) rfl ?_); refine box_y 7 #[.int .i64 0, .int .i64 0] 25 (h := ?_); intro gb453 hg w53 hbox hb; have n0_ := Aside0.mk (blk_below (sq_blk BK444.out) hb); have n1_ := Aside0.mk (blk_below (sq_blk BK445.out) hb); have n2_ := Aside0.mk (blk_below (sq_blk BK446.out) hb); have n3_ := Aside0.mk (below_step (sq_below3 HB.out GE444.out GE445.out GE446.out) hb); have n4_ := Aside0.mk (hbox); have n5_ := ge_ hg (below_size (sq_below3 HB.out GE444.out GE445.out GE446.out)); have n6_ := ge_ hg (below_size (sq_below3 HB.out GE444.out GE445.out GE446.out)); have n7_ := nb_ hg BK444; have n8_ := Aside0.mk (Ne.symm n7_.out); have n9_ := nb_ hg BK445; have n10_ := Aside0.mk (Ne.symm n9_.out); have n11_ := nb_ hg BK446; have n12_ := Aside0.mk (Ne.symm n11_.out); clear BK444; clear BK445; clear BK446; clear HB; have BK444 := n0_; have BK445 := n1_; have BK446 := n2_; have HB := n3_; have BK453 := n4_; have GW453 := n5_; have GE453 := n6_; have NB444_453 := n7_; have NB453_444 := n8_; have NB445_453 := n9_; have NB453_445 := n10_; have NB446_453 := n11_; have NB453_446 := n12_; clear n0_ n1_ n2_ n3_ n4_ n5_ n6_ n7_ n8_ n9_ n10_ n11_ n12_; clear hb hbox hg; have hnb54 := NB453_444.out; have hnc54 := NB444_453.out; have hnb55 := NB453_445.out; have hnc55 := NB445_453.out; have hnb56 := NB453_446.out; have hnc56 := NB446_453.out; have hcz57_0 := cl_ (v := .int .i64 0) BK453 0; have hcz57_1 := cl_ (v := .int .i64 0) BK453 1; have hfz57_0 := blk_frozen BK453.out 0; have hfz57_1 := blk_frozen BK453.out 1; have hcz58_0 := cl_ (v := .int .i64 a0_0) BK444 0; have hcz58_1 := cl_ (v := .int .i64 a0_1) BK444 1; have hfz58_0 := blk_frozen BK444.out 0; have hfz58_1 := blk_frozen BK444.out 1) | ((with_reducible refine gate_dst (N := 9) rfl ?_); refine box_y 9 #[.int .i64 0, .int .i64 0] 25 (h := ?_); intro gb454 hg w59 hbox hb; have n0_ := Aside0.mk (blk_below (g := gb444) (o := .cells #[.int .i64 a0_0, .int .i64 a0_1] 25 (0, 0)) (bf_ BK444 NB444_453).out hb); have n1_ := Aside0.mk (blk_below (g := gb445) (o := .cells #[.int .i64 a1_0, .int .i64 a1_1] 25 (0, 0)) (bf_ BK445 NB445_453).out hb); have n2_ := Aside0.mk (blk_below (g := gb446) (o := .cells #[.int .i64 0, .int .i64 0] 25 (0, 0)) (bf_ BK446 NB446_453).out hb); have n3_ := Aside0.mk (blk_below (g := gb453) (o := .cells #[.int .i64 t450, .int .i64 t451] 25 (0, 0)) (bp_ BK453) hb); have n4_ := Aside0.mk (below_step (sq_below4 HB.out GE444.out GE445.out GE446.out GE453.out) hb); have n5_ := Aside0.mk (hbox); have n6_ := ge_ hg (below_size (sq_below4 HB.out GE444.out GE445.out GE446.out GE453.out)); have n7_ := ge_ hg (below_size (sq_below4 HB.out GE444.out GE445.out GE446.out GE453.out)); have n8_ := Aside0.mk ((by rw [hg]; exact Nat.ne_of_lt (blk_lt (g := gb444) (o := .cells #[.int .i64 a0_0, .int .i64 a0_1] 25 (0, 0)) (bf_ BK444 NB444_453).out) : gb444 ≠ gb454)); have n9_ := Aside0.mk (Ne.symm n8_.out); have n10_ := Aside0.mk ((by rw [hg]; exact Nat.ne_of_lt (blk_lt (g := gb445) (o := .cells #[.int .i64 a1_0, .int .i64 a1_1] 25 (0, 0)) (bf_ BK445 NB445_453).out) : gb445 ≠ gb454)); have n11_ := Aside0.mk (Ne.symm n10_.out); have n12_ := Aside0.mk ((by rw [hg]; exact Nat.ne_of_lt (blk_lt (g := gb446) (o := .cells #[.int .i64 0, .int .i64 0] 25 (0, 0)) (bf_ BK446 NB446_453).out) : gb446 ≠ gb454)); have n13_ := Aside0.mk (Ne.symm n12_.out); have n14_ := Aside0.mk ((by rw [hg]; exact Nat.ne_of_lt (blk_lt (g := gb453) (o := .cells #[.int .i64 t450, .int .i64 t451] 25 (0, 0)) (bp_ BK453)) : gb453 ≠ gb454)); have n15_ := Aside0.mk (Ne.symm n14_.out); clear BK444; clear BK445; clear BK446; clear BK453; clear HB; have BK444 := n0_; have BK445 := n1_; have BK446 := n2_; have BK453 := n3_; have HB := n4_; have BK454 := n5_; have GW454 := n6_; have GE454 := n7_; have NB444_454 := n8_; have NB454_444 := n9_; have NB445_454 := n10_; have NB454_445 := n11_; have NB446_454 := n12_; have NB454_446 := n13_; have NB453_454 := n14_; have NB454_453 := n15_; clear n0_ n1_ n2_ n3_ n4_ n5_ n6_ n7_ n8_ n9_ n10_ n11_ n12_ n13_ n14_ n15_; clear hb hbox hg; have hnb60 := NB454_444.out; have hnc60 := NB444_454.out; have hnb61 := NB454_445.out; have hnc61 := NB445_454.out; have hnb62 := NB454_446.out; have hnc62 := NB446_454.out; have hnb63 := NB454_453.out; have hnc63 := NB453_454.out; have hcz64_0 := cl_ (v := .int .i64 0) BK454 0; have hcz64_1 := cl_ (v := .int .i64 0) BK454 1; have hfz64_0 := blk_frozen BK454.out 0; have hfz64_1 := blk_frozen BK454.out 1; have hcz65_0 := cl_ (v := .int .i64 a0_0) BK444 0; have hcz65_1 := cl_ (v := .int .i64 a0_1) BK444 1; have hfz65_0 := blk_frozen BK444.out 0; have hfz65_1 := blk_frozen BK444.out 1; have hcz66_0 := cl_ (v := .int .i64 a1_0) BK445 0; have hcz66_1 := cl_ (v := .int .i64 a1_1) BK445 1; have hfz66_0 := blk_frozen BK445.out 0; have hfz66_1 := blk_frozen BK445.out 1))
     (try simp only [Act.put, List.setIfInBounds_toArray, List.set_cons_zero, List.set_cons_succ])
     go_cut [] (fun wc => ∃ (kq : Nat) (x455000_45 : Int), Aside0 (impl_RangeWiden.j1 kq l2 a0_0 a0_1 a1_0 a1_1 x455000_45 a0_1 = some (r1, r2)) ∧ Aside0 (kq ≤ kj3) ∧ Aside0 (wc.heap[gb444]? = some (.cells #[.int .i64 a0_0, .int .i64 a0_1] 25 (0, 0))) ∧ Aside0 (wc.heap[gb445]? = some (.cells #[.int .i64 a1_0, .int .i64 a1_1] 25 (0, 0))) ∧ Aside0 (wc.heap[gb446]? = some (.cells #[.int .i64 0, .int .i64 0] 25 (0, 0))) ∧ Aside0 (wc.heap[gb453]? = some (.cells #[.int .i64 t450, .int .i64 t451] 25 (0, 0))) ∧ Aside0 (wc.heap[gb454]? = some (.cells #[.int .i64 x455000_45, .int .i64 a0_1] 25 (0, 0))) ∧ Aside0 (Below w.heap.size w wc))
     case first =>
      have H := HC46.out; clear HC46
      by_cases c67 : a0_0 > a1_0
      ·
       rw [if_pos c67] at H; have c67b0 : decide (a1_0 < a0_0) = true := decide_eq_true c67; clear c67
       (first | rw [c67b0] | (simp only [i64_w, i32_w]; rw [c67b0]) | skip)
       have H' := Aside0.mk H; clear H; have hnb68 := NB454_444.out; have hnc68 := NB444_454.out; have hnb69 := NB454_445.out; have hnc69 := NB445_454.out; have hnb70 := NB454_446.out; have hnc70 := NB446_454.out; have hnb71 := NB454_453.out; have hnc71 := NB453_454.out; have hcz72_0 := cl_ (v := .int .i64 0) BK454 0; have hcz72_1 := cl_ (v := .int .i64 0) BK454 1; have hfz72_0 := blk_frozen BK454.out 0; have hfz72_1 := blk_frozen BK454.out 1
       go_wp2
       go_meet
       case rel => exact ⟨_, ((-1000000)), H', ⟨by have := HJ3.out; first | omega | exact Nat.le_refl _⟩, bf_ BK444 NB444_454, bf_ BK445 NB445_454, bf_ BK446 NB446_454, bf_ BK453 NB453_454, ⟨by (with_reducible repeat (first | refine blk_drewN ?_ _ | refine blk_drew ?_ | refine blk_alloc ?_ _)); refine blk_put (cs := #[.int .i64 a0_0, .int .i64 a0_1]) ?_ 0 _ rfl; (with_reducible repeat (first | refine blk_drewN ?_ _ | refine blk_drew ?_ | refine blk_alloc ?_ _)); refine blk_put (cs := #[.int .i64 a0_0, .int .i64 0]) ?_ 1 _ rfl; (with_reducible repeat (first | refine blk_drewN ?_ _ | refine blk_drew ?_ | refine blk_alloc ?_ _)); refine blk_put (cs := #[.int .i64 0, .int .i64 0]) ?_ 0 _ rfl; (with_reducible repeat (first | refine blk_drewN ?_ _ | refine blk_drew ?_ | refine blk_alloc ?_ _)); exact BK454.out⟩, ⟨by repeat (first | (with_reducible first | exact HB.out | apply below_alloc | apply pw_below_drewN | apply below_drew1 | refine below_set ?_ GE444.out | refine below_set ?_ GE445.out | refine below_set ?_ GE446.out | refine below_set ?_ GE453.out | refine below_set ?_ GE454.out) | exact HB.out)⟩⟩
      ·
       rw [if_neg c67] at H; have c67b0 : decide (a1_0 < a0_0) = false := decide_eq_false c67; clear c67
       (first | rw [c67b0] | (simp only [i64_w, i32_w]; rw [c67b0]) | skip)
       have H' := Aside0.mk H; clear H
       go_wp2
       go_meet
       case rel => exact ⟨_, (a0_0), H', ⟨by have := HJ3.out; first | omega | exact Nat.le_refl _⟩, bf_ BK444 NB444_454, bf_ BK445 NB445_454, bf_ BK446 NB446_454, bf_ BK453 NB453_454, ⟨by (with_reducible repeat (first | refine blk_drewN ?_ _ | refine blk_drew ?_ | refine blk_alloc ?_ _)); refine blk_put (cs := #[.int .i64 a0_0, .int .i64 0]) ?_ 1 _ rfl; (with_reducible repeat (first | refine blk_drewN ?_ _ | refine blk_drew ?_ | refine blk_alloc ?_ _)); refine blk_put (cs := #[.int .i64 0, .int .i64 0]) ?_ 0 _ rfl; (with_reducible repeat (first | refine blk_drewN ?_ _ | refine blk_drew ?_ | refine blk_alloc ?_ _)); exact BK454.out⟩, ⟨by repeat (first | (with_reducible first | exact HB.out | apply below_alloc | apply pw_below_drewN | apply below_drew1 | refine below_set ?_ GE444.out | refine below_set ?_ GE445.out | refine below_set ?_ GE446.out | refine below_set ?_ GE453.out | refine below_set ?_ GE454.out) | exact HB.out)⟩⟩
     case rest =>
      clear HC46
      try clear c1
      try clear c2
      try clear p2
      try clear c3
      try clear c4
      try clear c5
      try clear c6
      try clear c7
      try clear c9
      try clear c11
      try clear c13
      try clear c14
      try clear c17
      try clear c20
      try clear c21
      try clear c24
      try clear c27
      try clear c28
      try clear c31
      try clear c35
      try clear c36
      try clear c37
      try clear c39
      try clear c43
      try clear c47
      try clear c48
      try clear c50
      try clear c54
      try clear c55
      try clear c56
      try clear c57
      try clear c59
      try clear c60
      try clear c61
      try clear c62
      try clear c63
      try clear c67
      try clear c67b0
      try clear c68
      try clear c69
      try clear c70
      try clear c71
      try clear hcz15_0
      try clear hcz15_1
      try clear hcz18_0
      try clear hcz18_1
      try clear hcz22_0
      try clear hcz22_1
      try clear hcz25_0
      try clear hcz25_1
      try clear hcz29_0
      try clear hcz29_1
      try clear hcz33_0
      try clear hcz33_1
      try clear hcz38_0
      try clear hcz38_1
      try clear hcz40_0
      try clear hcz40_1
      try clear hcz44_0
      try clear hcz44_1
      try clear hcz45_0
      try clear hcz45_1
      try clear hcz49_0
      try clear hcz49_1
      try clear hcz51_0
      try clear hcz51_1
      try clear hcz57_0
      try clear hcz57_1
      try clear hcz58_0
      try clear hcz58_1
      try clear hcz64_0
      try clear hcz64_1
      try clear hcz65_0
      try clear hcz65_1
      try clear hcz66_0
      try clear hcz66_1
      try clear hcz72_0
      try clear hcz72_1
      try clear hfz15_0
      try clear hfz15_1
      try clear hfz18_0
      try clear hfz18_1
      try clear hfz22_0
      try clear hfz22_1
      try clear hfz25_0
      try clear hfz25_1
      try clear hfz29_0
      try clear hfz29_1
      try clear hfz33_0
      try clear hfz33_1
      try clear hfz38_0
      try clear hfz38_1
      try clear hfz40_0
      try clear hfz40_1
      try clear hfz44_0
      try clear hfz44_1
      try clear hfz45_0
      try clear hfz45_1
      try clear hfz49_0
      try clear hfz49_1
      try clear hfz51_0
      try clear hfz51_1
      try clear hfz57_0
      try clear hfz57_1
      try clear hfz58_0
      try clear hfz58_1
      try clear hfz64_0
      try clear hfz64_1
      try clear hfz65_0
      try clear hfz65_1
      try clear hfz66_0
      try clear hfz66_1
      try clear hfz72_0
      try clear hfz72_1
      try clear p2
      obtain ⟨kq, x455000_45, HA, HJ45, BK444, BK445, BK446, BK453, BK454, HB⟩ := hcut; cases kq with
      | zero => exact absurd HA.out (by simp [impl_RangeWiden.j1])
      | succ kj45 =>
       have H := HA.out; clear HA; simp only [impl_RangeWiden.j1] at H; have HC73 := Aside0.mk H; clear H; have hnb74 := NB444_445.out; have hnc74 := NB445_444.out; have hnb75 := NB444_446.out; have hnc75 := NB446_444.out; have hnb76 := NB444_453.out; have hnc76 := NB453_444.out; have hnb77 := NB444_454.out; have hnc77 := NB454_444.out; have hcz78_0 := cl_ (v := .int .i64 a0_0) BK444 0; have hcz78_1 := cl_ (v := .int .i64 a0_1) BK444 1; have hfz78_0 := blk_frozen BK444.out 0; have hfz78_1 := blk_frozen BK444.out 1; have hnb79 := NB445_446.out; have hnc79 := NB446_445.out; have hnb80 := NB445_453.out; have hnc80 := NB453_445.out; have hnb81 := NB445_454.out; have hnc81 := NB454_445.out; have hcz82_0 := cl_ (v := .int .i64 a1_0) BK445 0; have hcz82_1 := cl_ (v := .int .i64 a1_1) BK445 1; have hfz82_0 := blk_frozen BK445.out 0; have hfz82_1 := blk_frozen BK445.out 1
       go_upto_if 45 with (fail)
       go_cut [] (fun wc => ∃ (kq : Nat) (x455001_72 : Int), Aside0 (impl_RangeWiden.j2 kq l2 a0_0 a0_1 a1_0 a1_1 x455000_45 x455001_72 = some (r1, r2)) ∧ Aside0 (kq ≤ kj45) ∧ Aside0 (wc.heap[gb444]? = some (.cells #[.int .i64 a0_0, .int .i64 a0_1] 25 (0, 0))) ∧ Aside0 (wc.heap[gb445]? = some (.cells #[.int .i64 a1_0, .int .i64 a1_1] 25 (0, 0))) ∧ Aside0 (wc.heap[gb446]? = some (.cells #[.int .i64 0, .int .i64 0] 25 (0, 0))) ∧ Aside0 (wc.heap[gb453]? = some (.cells #[.int .i64 t450, .int .i64 t451] 25 (0, 0))) ∧ Aside0 (wc.heap[gb454]? = some (.cells #[.int .i64 x455000_45, .int .i64 x455001_72] 25 (0, 0))) ∧ Aside0 (Below w.heap.size w wc))
       case first =>
        have H := HC73.out; clear HC73
        by_cases c83 : a0_1 < a1_1
        ·
         rw [if_pos c83] at H; have c83b0 : decide (a0_1 < a1_1) = true := decide_eq_true c83; clear c83
         (first | rw [c83b0] | (simp only [i64_w, i32_w]; rw [c83b0]) | skip)
         have H' := Aside0.mk H; clear H; have hnb84 := NB454_444.out; have hnc84 := NB444_454.out; have hnb85 := NB454_445.out; have hnc85 := NB445_454.out; have hnb86 := NB454_446.out; have hnc86 := NB446_454.out; have hnb87 := NB454_453.out; have hnc87 := NB453_454.out; have hcz88_0 := cl_ (v := .int .i64 x455000_45) BK454 0; have hcz88_1 := cl_ (v := .int .i64 a0_1) BK454 1; have hfz88_0 := blk_frozen BK454.out 0; have hfz88_1 := blk_frozen BK454.out 1
         go_wp2
         go_meet
         case rel => exact ⟨_, (1000000), H', ⟨by have := HJ3.out; have := HJ45.out; first | omega | exact Nat.le_refl _⟩, bf_ BK444 NB444_454, bf_ BK445 NB445_454, bf_ BK446 NB446_454, bf_ BK453 NB453_454, ⟨by (with_reducible repeat (first | refine blk_drewN ?_ _ | refine blk_drew ?_ | refine blk_alloc ?_ _)); refine blk_put (cs := #[.int .i64 x455000_45, .int .i64 a0_1]) ?_ 1 _ rfl; (with_reducible repeat (first | refine blk_drewN ?_ _ | refine blk_drew ?_ | refine blk_alloc ?_ _)); exact BK454.out⟩, ⟨by repeat (first | (with_reducible first | exact HB.out | apply below_alloc | apply pw_below_drewN | apply below_drew1 | refine below_set ?_ GE444.out | refine below_set ?_ GE445.out | refine below_set ?_ GE446.out | refine below_set ?_ GE453.out | refine below_set ?_ GE454.out) | exact HB.out)⟩⟩
        ·
         rw [if_neg c83] at H; have c83b0 : decide (a0_1 < a1_1) = false := decide_eq_false c83; clear c83
         (first | rw [c83b0] | (simp only [i64_w, i32_w]; rw [c83b0]) | skip)
         have H' := Aside0.mk H; clear H
         go_wp2
         go_meet
         case rel => exact ⟨_, (a0_1), H', ⟨by have := HJ3.out; have := HJ45.out; first | omega | exact Nat.le_refl _⟩, bk_ BK444, bk_ BK445, bk_ BK446, bk_ BK453, bk_ BK454, ⟨by repeat (first | (with_reducible first | exact HB.out | apply below_alloc | apply pw_below_drewN | apply below_drew1 | refine below_set ?_ GE444.out | refine below_set ?_ GE445.out | refine below_set ?_ GE446.out | refine below_set ?_ GE453.out | refine below_set ?_ GE454.out) | exact HB.out)⟩⟩
       case rest =>
        clear HC73
        try clear c1
        try clear c2
        try clear p2
        try clear c3
        try clear c4
        try clear c5
        try clear c6
        try clear c7
        try clear c8
        try clear c9
        try clear c11
        try clear c13
        try clear c14
        try clear c17
        try clear c20
        try clear c21
        try clear c24
        try clear c27
        try clear c28
        try clear c31
        try clear c35
        try clear c36
        try clear c37
        try clear c39
        try clear c43
        try clear c47
        try clear c48
        try clear c50
        try clear c54
        try clear c55
        try clear c56
        try clear c57
        try clear c59
        try clear c60
        try clear c61
        try clear c62
        try clear c63
        try clear c67
        try clear c67b0
        try clear c68
        try clear c69
        try clear c70
        try clear c71
        try clear c74
        try clear c75
        try clear c76
        try clear c77
        try clear c79
        try clear c80
        try clear c81
        try clear c83
        try clear c83b0
        try clear c84
        try clear c85
        try clear c86
        try clear c87
        try clear hcz15_0
        try clear hcz15_1
        try clear hcz18_0
        try clear hcz18_1
        try clear hcz22_0
        try clear hcz22_1
        try clear hcz25_0
        try clear hcz25_1
        try clear hcz29_0
        try clear hcz29_1
        try clear hcz33_0
        try clear hcz33_1
        try clear hcz38_0
        try clear hcz38_1
        try clear hcz40_0
        try clear hcz40_1
        try clear hcz44_0
        try clear hcz44_1
        try clear hcz45_0
        try clear hcz45_1
        try clear hcz49_0
        try clear hcz49_1
        try clear hcz51_0
        try clear hcz51_1
        try clear hcz57_0
        try clear hcz57_1
        try clear hcz58_0
        try clear hcz58_1
        try clear hcz64_0
        try clear hcz64_1
        try clear hcz65_0
        try clear hcz65_1
        try clear hcz66_0
        try clear hcz66_1
        try clear hcz72_0
        try clear hcz72_1
        try clear hcz78_0
        try clear hcz78_1
        try clear hcz82_0
        try clear hcz82_1
        try clear hcz88_0
        try clear hcz88_1
        try clear hfz15_0
        try clear hfz15_1
        try clear hfz18_0
        try clear hfz18_1
        try clear hfz22_0
        try clear hfz22_1
        try clear hfz25_0
        try clear hfz25_1
        try clear hfz29_0
        try clear hfz29_1
        try clear hfz33_0
        try clear hfz33_1
        try clear hfz38_0
        try clear hfz38_1
        try clear hfz40_0
        try clear hfz40_1
        try clear hfz44_0
        try clear hfz44_1
        try clear hfz45_0
        try clear hfz45_1
        try clear hfz49_0
        try clear hfz49_1
        try clear hfz51_0
        try clear hfz51_1
        try clear hfz57_0
        try clear hfz57_1
        try clear hfz58_0
        try clear hfz58_1
        try clear hfz64_0
        try clear hfz64_1
        try clear hfz65_0
        try clear hfz65_1
        try clear hfz66_0
        try clear hfz66_1
        try clear hfz72_0
        try clear hfz72_1
        try clear hfz78_0
        try clear hfz78_1
        try clear hfz82_0
        try clear hfz82_1
        try clear hfz88_0
        try clear hfz88_1
        try clear p2
        obtain ⟨kq, x455001_72, HA, HJ72, BK444, BK445, BK446, BK453, BK454, HB⟩ := hcut; cases kq with
        | zero => exact absurd HA.out (by simp [impl_RangeWiden.j2])
        | succ kj72 =>
         have H := HA.out; clear HA; simp only [impl_RangeWiden.j2] at H; have H' := Aside0.mk H; clear H
         go_wp2
         go_loopg [49] kj72 (fun kq v49 w' => ∃ (x49_4 : Int) (x455000_4 : Int) (x455001_4 : Int), v49 = .int .i64 x49_4 ∧ Aside0 (impl_RangeWiden.l0 kq l2 (l2.length : Int) x49_4 a0_0 a0_1 a1_0 a1_1 x455000_4 x455001_4 = some (r1, r2)) ∧ Aside0 (kq ≤ kj72) ∧ Aside0 (w'.heap[gb444]? = some (.cells #[.int .i64 a0_0, .int .i64 a0_1] 25 (0, 0))) ∧ Aside0 (w'.heap[gb445]? = some (.cells #[.int .i64 a1_0, .int .i64 a1_1] 25 (0, 0))) ∧ Aside0 (w'.heap[gb446]? = some (.cells #[.int .i64 0, .int .i64 0] 25 (0, 0))) ∧ Aside0 (w'.heap[gb453]? = some (.cells #[.int .i64 t450, .int .i64 t451] 25 (0, 0))) ∧ Aside0 (w'.heap[gb454]? = some (.cells #[.int .i64 x455000_4, .int .i64 x455001_4] 25 (0, 0))) ∧ Aside0 (Below w.heap.size w w'))
         case atStart => exact ⟨(0), (x455000_45), (x455001_72), (by first | rfl | (simp; done) | (simp [*]; done)), H', ⟨Nat.le_refl _⟩, bk_ BK444, bk_ BK445, bk_ BK446, bk_ BK453, bk_ BK454, ⟨by repeat (first | (with_reducible first | exact HB.out | apply below_alloc | apply pw_below_drewN | apply below_drew1 | refine below_set ?_ GE444.out | refine below_set ?_ GE445.out | refine below_set ?_ GE446.out | refine below_set ?_ GE453.out | refine below_set ?_ GE454.out) | exact HB.out)⟩⟩
         case round =>
          clear H'
          try clear c1
          try clear c2
          try clear p2
          try clear c3
          try clear c4
          try clear c5
          try clear c6
          try clear c7
          try clear c8
          try clear c9
          try clear c11
          try clear c13
          try clear c14
          try clear c17
          try clear c20
          try clear c21
          try clear c24
          try clear c27
          try clear c28
          try clear c31
          try clear c35
          try clear c36
          try clear c37
          try clear c39
          try clear c43
          try clear c47
          try clear c48
          try clear c50
          try clear c54
          try clear c55
          try clear c56
          try clear c57
          try clear c59
          try clear c60
          try clear c61
          try clear c62
          try clear c63
          try clear c67
          try clear c67b0
          try clear c68
          try clear c69
          try clear c70
          try clear c71
          try clear c74
          try clear c75
          try clear c76
          try clear c77
          try clear c79
          try clear c80
          try clear c81
          try clear c83
          try clear c83b0
          try clear c84
          try clear c85
          try clear c86
          try clear c87
          try clear hcz15_0
          try clear hcz15_1
          try clear hcz18_0
          try clear hcz18_1
          try clear hcz22_0
          try clear hcz22_1
          try clear hcz25_0
          try clear hcz25_1
          try clear hcz29_0
          try clear hcz29_1
          try clear hcz33_0
          try clear hcz33_1
          try clear hcz38_0
          try clear hcz38_1
          try clear hcz40_0
          try clear hcz40_1
          try clear hcz44_0
          try clear hcz44_1
          try clear hcz45_0
          try clear hcz45_1
          try clear hcz49_0
          try clear hcz49_1
          try clear hcz51_0
          try clear hcz51_1
          try clear hcz57_0
          try clear hcz57_1
          try clear hcz58_0
          try clear hcz58_1
          try clear hcz64_0
          try clear hcz64_1
          try clear hcz65_0
          try clear hcz65_1
          try clear hcz66_0
          try clear hcz66_1
          try clear hcz72_0
          try clear hcz72_1
          try clear hcz78_0
          try clear hcz78_1
          try clear hcz82_0
          try clear hcz82_1
          try clear hcz88_0
          try clear hcz88_1
          try clear hfz15_0
          try clear hfz15_1
          try clear hfz18_0
          try clear hfz18_1
          try clear hfz22_0
          try clear hfz22_1
          try clear hfz25_0
          try clear hfz25_1
          try clear hfz29_0
          try clear hfz29_1
          try clear hfz33_0
          try clear hfz33_1
          try clear hfz38_0
          try clear hfz38_1
          try clear hfz40_0
          try clear hfz40_1
          try clear hfz44_0
          try clear hfz44_1
          try clear hfz45_0
          try clear hfz45_1
          try clear hfz49_0
          try clear hfz49_1
          try clear hfz51_0
          try clear hfz51_1
          try clear hfz57_0
          try clear hfz57_1
          try clear hfz58_0
          try clear hfz58_1
          try clear hfz64_0
          try clear hfz64_1
          try clear hfz65_0
          try clear hfz65_1
          try clear hfz66_0
          try clear hfz66_1
          try clear hfz72_0
          try clear hfz72_1
          try clear hfz78_0
          try clear hfz78_1
          try clear hfz82_0
          try clear hfz82_1
          try clear hfz88_0
          try clear hfz88_1
          try clear p2
          obtain ⟨x49_4, x455000_4, x455001_4, rfl, HA, HK4, BK444, BK445, BK446, BK453, BK454, HB⟩ := hrel; cases gk with
          | zero => exact absurd HA.out (by simp [impl_RangeWiden.l0])
          | succ k4 =>
           have H := HA.out; clear HA; simp only [impl_RangeWiden.l0] at H
           by_cases c89 : x49_4 < (l2.length : Int)
           ·
            rw [if_pos c89] at H; have c89b0 : decide (x49_4 < (l2.length : Int)) = true := decide_eq_true c89; clear c89
            by_cases c90 : 0 ≤ x49_4
            ·
             rw [if_pos c90] at H; have c90b0 : decide (0 ≤ x49_4) = true := decide_eq_true c90; clear c90
             by_cases c91 : x49_4 < (l2.length : Int)
             ·
              rw [if_pos c91] at H; have c91b0 : decide (x49_4 < (l2.length : Int)) = true := decide_eq_true c91; clear c91; have HC92 := Aside0.mk H; clear H; have p455 : 0 ≤ (x49_4 : Int) := sq_dec; have q455 : x49_4 < (l2.length : Int) := sq_dec; obtain ⟨ad455, e455, hx455_0⟩ := Kd.at_int HR2.out x49_4 p455 q455; cases e455; replace hx455_0 := (HB.out.cell (World.block_lt_of_cell? w _ hx455_0)).trans hx455_0; replace p455 := eq_true p455; replace q455 := eq_true q455
              go_upto_region 14 with (fail)
              go_cut [63] (fun v63 wc => ∃ (kq : Nat) (x63_91 : Bool), v63 = .bool x63_91 ∧ Aside0 (impl_RangeWiden.j4 kq (rd l2 x49_4) l2 (l2.length : Int) x49_4 x63_91 a0_0 a0_1 a1_0 a1_1 x455000_4 x455001_4 = some (r1, r2)) ∧ Aside0 (kq ≤ k4) ∧ Aside0 (wc.heap[gb444]? = some (.cells #[.int .i64 a0_0, .int .i64 a0_1] 25 (0, 0))) ∧ Aside0 (wc.heap[gb445]? = some (.cells #[.int .i64 a1_0, .int .i64 a1_1] 25 (0, 0))) ∧ Aside0 (wc.heap[gb446]? = some (.cells #[.int .i64 0, .int .i64 0] 25 (0, 0))) ∧ Aside0 (wc.heap[gb453]? = some (.cells #[.int .i64 t450, .int .i64 t451] 25 (0, 0))) ∧ Aside0 (wc.heap[gb454]? = some (.cells #[.int .i64 x455000_4, .int .i64 x455001_4] 25 (0, 0))) ∧ Aside0 (Below w.heap.size w wc))
              case first =>
               have H := HC92.out; clear HC92
               by_cases c93 : a0_0 > a1_0
               ·
                rw [if_pos c93] at H; have c93b0 : decide (a1_0 < a0_0) = true := decide_eq_true c93; clear c93
                (first | rw [c93b0] | (simp only [i64_w, i32_w]; rw [c93b0]) | skip)
                have H' := Aside0.mk H; clear H; have hnb94 := NB444_445.out; have hnc94 := NB445_444.out; have hnb95 := NB444_446.out; have hnc95 := NB446_444.out; have hnb96 := NB444_453.out; have hnc96 := NB453_444.out; have hnb97 := NB444_454.out; have hnc97 := NB454_444.out; have hcz98_0 := cl_ (v := .int .i64 a0_0) BK444 0; have hcz98_1 := cl_ (v := .int .i64 a0_1) BK444 1; have hfz98_0 := blk_frozen BK444.out 0; have hfz98_1 := blk_frozen BK444.out 1; have hnb99 := NB445_446.out; have hnc99 := NB446_445.out; have hnb100 := NB445_453.out; have hnc100 := NB453_445.out; have hnb101 := NB445_454.out; have hnc101 := NB454_445.out; have hcz102_0 := cl_ (v := .int .i64 a1_0) BK445 0; have hcz102_1 := cl_ (v := .int .i64 a1_1) BK445 1; have hfz102_0 := blk_frozen BK445.out 0; have hfz102_1 := blk_frozen BK445.out 1
                go_wp2
                go_meet
                case rel => exact ⟨_, (decide ((rd l2 x49_4) ≤ a1_0)), (by first | rfl | (simp; done) | (simp [*]; done)), H', ⟨by have := HJ3.out; have := HJ45.out; have := HJ72.out; have := HK4.out; first | omega | exact Nat.le_refl _⟩, bk_ BK444, bk_ BK445, bk_ BK446, bk_ BK453, bk_ BK454, ⟨by repeat (first | (with_reducible first | exact HB.out | apply below_alloc | apply pw_below_drewN | apply below_drew1 | refine below_set ?_ GE444.out | refine below_set ?_ GE445.out | refine below_set ?_ GE446.out | refine below_set ?_ GE453.out | refine below_set ?_ GE454.out) | exact HB.out)⟩⟩
               ·
                rw [if_neg c93] at H; have c93b0 : decide (a1_0 < a0_0) = false := decide_eq_false c93; clear c93
                (first | rw [c93b0] | (simp only [i64_w, i32_w]; rw [c93b0]) | skip)
                have H' := Aside0.mk H; clear H; have hnb103 := NB444_445.out; have hnc103 := NB445_444.out; have hnb104 := NB444_446.out; have hnc104 := NB446_444.out; have hnb105 := NB444_453.out; have hnc105 := NB453_444.out; have hnb106 := NB444_454.out; have hnc106 := NB454_444.out; have hcz107_0 := cl_ (v := .int .i64 a0_0) BK444 0; have hcz107_1 := cl_ (v := .int .i64 a0_1) BK444 1; have hfz107_0 := blk_frozen BK444.out 0; have hfz107_1 := blk_frozen BK444.out 1; have hnb108 := NB445_446.out; have hnc108 := NB446_445.out; have hnb109 := NB445_453.out; have hnc109 := NB453_445.out; have hnb110 := NB445_454.out; have hnc110 := NB454_445.out; have hcz111_0 := cl_ (v := .int .i64 a1_0) BK445 0; have hcz111_1 := cl_ (v := .int .i64 a1_1) BK445 1; have hfz111_0 := blk_frozen BK445.out 0; have hfz111_1 := blk_frozen BK445.out 1
                go_wp2
                go_meet
                case rel => exact ⟨_, (false), (by first | rfl | (simp; done) | (simp [*]; done)), H', ⟨by have := HJ3.out; have := HJ45.out; have := HJ72.out; have := HK4.out; first | omega | exact Nat.le_refl _⟩, bk_ BK444, bk_ BK445, bk_ BK446, bk_ BK453, bk_ BK454, ⟨by repeat (first | (with_reducible first | exact HB.out | apply below_alloc | apply pw_below_drewN | apply below_drew1 | refine below_set ?_ GE444.out | refine below_set ?_ GE445.out | refine below_set ?_ GE446.out | refine below_set ?_ GE453.out | refine below_set ?_ GE454.out) | exact HB.out)⟩⟩
              case rest =>
               clear HC92
               try clear c1
               try clear c2
               try clear p2
               try clear c3
               try clear c4
               try clear p4
               try clear q4
               try clear hx4
               try clear c5
               try clear c6
               try clear c7
               try clear c8
               try clear c9
               try clear c10
               try clear c11
               try clear c13
               try clear c14
               try clear c17
               try clear c20
               try clear c21
               try clear c24
               try clear c27
               try clear c28
               try clear c31
               try clear c35
               try clear c36
               try clear c37
               try clear c39
               try clear c43
               try clear p45
               try clear q45
               try clear hx45
               try clear c47
               try clear c48
               try clear c50
               try clear c54
               try clear c55
               try clear c56
               try clear c57
               try clear c59
               try clear c60
               try clear c61
               try clear c62
               try clear c63
               try clear c67
               try clear c67b0
               try clear c68
               try clear c69
               try clear c70
               try clear c71
               try clear c74
               try clear c75
               try clear c76
               try clear c77
               try clear c79
               try clear c80
               try clear c81
               try clear c83
               try clear c83b0
               try clear c84
               try clear c85
               try clear c86
               try clear c87
               try clear c89
               try clear c89b0
               try clear c90
               try clear c90b0
               try clear c91
               try clear c91b0
               try clear c93
               try clear c93b0
               try clear c94
               try clear c95
               try clear c96
               try clear c97
               try clear c99
               try clear c100
               try clear c101
               try clear c103
               try clear c104
               try clear c105
               try clear c106
               try clear c108
               try clear c109
               try clear c110
               try clear hcz102_0
               try clear hcz102_1
               try clear hcz107_0
               try clear hcz107_1
               try clear hcz111_0
               try clear hcz111_1
               try clear hcz15_0
               try clear hcz15_1
               try clear hcz18_0
               try clear hcz18_1
               try clear hcz22_0
               try clear hcz22_1
               try clear hcz25_0
               try clear hcz25_1
               try clear hcz29_0
               try clear hcz29_1
               try clear hcz33_0
               try clear hcz33_1
               try clear hcz38_0
               try clear hcz38_1
               try clear hcz40_0
               try clear hcz40_1
               try clear hcz44_0
               try clear hcz44_1
               try clear hcz45_0
               try clear hcz45_1
               try clear hcz49_0
               try clear hcz49_1
               try clear hcz51_0
               try clear hcz51_1
               try clear hcz57_0
               try clear hcz57_1
               try clear hcz58_0
               try clear hcz58_1
               try clear hcz64_0
               try clear hcz64_1
               try clear hcz65_0
               try clear hcz65_1
               try clear hcz66_0
               try clear hcz66_1
               try clear hcz72_0
               try clear hcz72_1
               try clear hcz78_0
               try clear hcz78_1
               try clear hcz82_0
               try clear hcz82_1
               try clear hcz88_0
               try clear hcz88_1
               try clear hcz98_0
               try clear hcz98_1
               try clear hfz102_0
               try clear hfz102_1
               try clear hfz107_0
               try clear hfz107_1
               try clear hfz111_0
               try clear hfz111_1
               try clear hfz15_0
               try clear hfz15_1
               try clear hfz18_0
               try clear hfz18_1
               try clear hfz22_0
               try clear hfz22_1
               try clear hfz25_0
               try clear hfz25_1
               try clear hfz29_0
               try clear hfz29_1
               try clear hfz33_0
               try clear hfz33_1
               try clear hfz38_0
               try clear hfz38_1
               try clear hfz40_0
               try clear hfz40_1
               try clear hfz44_0
               try clear hfz44_1
               try clear hfz45_0
               try clear hfz45_1
               try clear hfz49_0
               try clear hfz49_1
               try clear hfz51_0
               try clear hfz51_1
               try clear hfz57_0
               try clear hfz57_1
               try clear hfz58_0
               try clear hfz58_1
               try clear hfz64_0
               try clear hfz64_1
               try clear hfz65_0
               try clear hfz65_1
               try clear hfz66_0
               try clear hfz66_1
               try clear hfz72_0
               try clear hfz72_1
               try clear hfz78_0
               try clear hfz78_1
               try clear hfz82_0
               try clear hfz82_1
               try clear hfz88_0
               try clear hfz88_1
               try clear hfz98_0
               try clear hfz98_1
               try clear hx455_0
               try clear p2
               try clear p455
               try clear q455
               obtain ⟨kq, x63_91, rfl, HA, HJ91, BK444, BK445, BK446, BK453, BK454, HB⟩ := hcut; cases kq with
               | zero => exact absurd HA.out (by simp [impl_RangeWiden.j4])
               | succ kj91 =>
                have H := HA.out; clear HA; simp only [impl_RangeWiden.j4] at H
                by_cases c112 : x63_91 = true
                ·
                 subst c112; have H1 := ifp_ H
                 clear H; have H := H1; clear H1; obtain ⟨ji113, hji113⟩ : ∃ j_ : Int, (mx x455000_4 (rd l2 x49_4)) = j_ := ⟨_, rfl⟩; replace H : (if a0_1 < a1_1 then (if (rd l2 x49_4) ≥ a1_1 then (impl_RangeWiden.l0 kj91 l2 (l2.length : Int) (wrap64 (x49_4 + 1)) a0_0 a0_1 a1_0 a1_1 ji113 (mn x455001_4 (rd l2 x49_4))) else (impl_RangeWiden.l0 kj91 l2 (l2.length : Int) (wrap64 (x49_4 + 1)) a0_0 a0_1 a1_0 a1_1 ji113 x455001_4)) else (impl_RangeWiden.l0 kj91 l2 (l2.length : Int) (wrap64 (x49_4 + 1)) a0_0 a0_1 a1_0 a1_1 ji113 x455001_4)) = some (r1, r2) := by first | (rw [hji113] at H; exact H) | (simp only [hji113] at H ⊢; exact H)
                 have hji113_ : (if x455000_4 < (rd l2 x49_4) then (rd l2 x49_4) else x455000_4) = ji113 := hji113
                 by_cases c114 : a0_1 < a1_1
                 ·
                  rw [if_pos c114] at H; have c114b0 : decide (a0_1 < a1_1) = true := decide_eq_true c114; clear c114
                  by_cases c115 : (rd l2 x49_4) ≥ a1_1
                  ·
                   rw [if_pos c115] at H; have c115b0 : decide (a1_1 ≤ (rd l2 x49_4)) = true := decide_eq_true c115; clear c115; obtain ⟨ji116, hji116⟩ : ∃ j_ : Int, (mn x455001_4 (rd l2 x49_4)) = j_ := ⟨_, rfl⟩; replace H : (impl_RangeWiden.l0 kj91 l2 (l2.length : Int) (wrap64 (x49_4 + 1)) a0_0 a0_1 a1_0 a1_1 ji113 ji116) = some (r1, r2) := by first | (rw [hji116] at H; exact H) | (simp only [hji116] at H ⊢; exact H)
                   have hji116_ : (if (rd l2 x49_4) < x455001_4 then (rd l2 x49_4) else x455001_4) = ji116 := hji116; have H' := Aside0.mk H; clear H; have hnb117 := NB454_444.out; have hnc117 := NB444_454.out; have hnb118 := NB454_445.out; have hnc118 := NB445_454.out; have hnb119 := NB454_446.out; have hnc119 := NB446_454.out; have hnb120 := NB454_453.out; have hnc120 := NB453_454.out; have hcz121_0 := cl_ (v := .int .i64 x455000_4) BK454 0; have hcz121_1 := cl_ (v := .int .i64 x455001_4) BK454 1; have hfz121_0 := blk_frozen BK454.out 0; have hfz121_1 := blk_frozen BK454.out 1; have hnb122 := NB444_445.out; have hnc122 := NB445_444.out; have hnb123 := NB444_446.out; have hnc123 := NB446_444.out; have hnb124 := NB444_453.out; have hnc124 := NB453_444.out; have hcz125_0 := cl_ (v := .int .i64 a0_0) BK444 0; have hcz125_1 := cl_ (v := .int .i64 a0_1) BK444 1; have hfz125_0 := blk_frozen BK444.out 0; have hfz125_1 := blk_frozen BK444.out 1; have hnb126 := NB445_446.out; have hnc126 := NB446_445.out; have hnb127 := NB445_453.out; have hnc127 := NB453_445.out; have hcz128_0 := cl_ (v := .int .i64 a1_0) BK445 0; have hcz128_1 := cl_ (v := .int .i64 a1_1) BK445 1; have hfz128_0 := blk_frozen BK445.out 0; have hfz128_1 := blk_frozen BK445.out 1
                   go_wp2
                   go_roundg kj91
                   case measure => have := HJ3.out; have := HJ45.out; have := HJ72.out; have := HK4.out; have := HJ91.out; omega
                   case rel => exact ⟨(wrap64 (x49_4 + 1)), (ji113), (ji116), (by first | rfl | (simp; done) | (simp [*]; done)), H', ⟨by have := HJ3.out; have := HJ45.out; have := HJ72.out; have := HK4.out; have := HJ91.out; omega⟩, bf_ BK444 NB444_454, bf_ BK445 NB445_454, bf_ BK446 NB446_454, bf_ BK453 NB453_454, ⟨by (with_reducible repeat (first | refine blk_drewN ?_ _ | refine blk_drew ?_ | refine blk_alloc ?_ _)); refine blk_put (cs := #[.int .i64 ji113, .int .i64 x455001_4]) ?_ 1 _ rfl; (with_reducible repeat (first | refine blk_drewN ?_ _ | refine blk_drew ?_ | refine blk_alloc ?_ _)); refine blk_put (cs := #[.int .i64 x455000_4, .int .i64 x455001_4]) ?_ 0 _ rfl; (with_reducible repeat (first | refine blk_drewN ?_ _ | refine blk_drew ?_ | refine blk_alloc ?_ _)); exact BK454.out⟩, ⟨by repeat (first | (with_reducible first | exact HB.out | apply below_alloc | apply pw_below_drewN | apply below_drew1 | refine below_set ?_ GE444.out | refine below_set ?_ GE445.out | refine below_set ?_ GE446.out | refine below_set ?_ GE453.out | refine below_set ?_ GE454.out) | exact HB.out)⟩⟩
                  ·
                   rw [if_neg c115] at H; have c115b0 : decide (a1_1 ≤ (rd l2 x49_4)) = false := decide_eq_false c115; clear c115; have H' := Aside0.mk H; clear H; have hnb129 := NB454_444.out; have hnc129 := NB444_454.out; have hnb130 := NB454_445.out; have hnc130 := NB445_454.out; have hnb131 := NB454_446.out; have hnc131 := NB446_454.out; have hnb132 := NB454_453.out; have hnc132 := NB453_454.out; have hcz133_0 := cl_ (v := .int .i64 x455000_4) BK454 0; have hcz133_1 := cl_ (v := .int .i64 x455001_4) BK454 1; have hfz133_0 := blk_frozen BK454.out 0; have hfz133_1 := blk_frozen BK454.out 1; have hnb134 := NB444_445.out; have hnc134 := NB445_444.out; have hnb135 := NB444_446.out; have hnc135 := NB446_444.out; have hnb136 := NB444_453.out; have hnc136 := NB453_444.out; have hcz137_0 := cl_ (v := .int .i64 a0_0) BK444 0; have hcz137_1 := cl_ (v := .int .i64 a0_1) BK444 1; have hfz137_0 := blk_frozen BK444.out 0; have hfz137_1 := blk_frozen BK444.out 1; have hnb138 := NB445_446.out; have hnc138 := NB446_445.out; have hnb139 := NB445_453.out; have hnc139 := NB453_445.out; have hcz140_0 := cl_ (v := .int .i64 a1_0) BK445 0; have hcz140_1 := cl_ (v := .int .i64 a1_1) BK445 1; have hfz140_0 := blk_frozen BK445.out 0; have hfz140_1 := blk_frozen BK445.out 1
                   go_wp2
                   go_roundg kj91
                   case measure => have := HJ3.out; have := HJ45.out; have := HJ72.out; have := HK4.out; have := HJ91.out; omega
                   case rel => exact ⟨(wrap64 (x49_4 + 1)), (ji113), (x455001_4), (by first | rfl | (simp; done) | (simp [*]; done)), H', ⟨by have := HJ3.out; have := HJ45.out; have := HJ72.out; have := HK4.out; have := HJ91.out; omega⟩, bf_ BK444 NB444_454, bf_ BK445 NB445_454, bf_ BK446 NB446_454, bf_ BK453 NB453_454, ⟨by (with_reducible repeat (first | refine blk_drewN ?_ _ | refine blk_drew ?_ | refine blk_alloc ?_ _)); refine blk_put (cs := #[.int .i64 x455000_4, .int .i64 x455001_4]) ?_ 0 _ rfl; (with_reducible repeat (first | refine blk_drewN ?_ _ | refine blk_drew ?_ | refine blk_alloc ?_ _)); exact BK454.out⟩, ⟨by repeat (first | (with_reducible first | exact HB.out | apply below_alloc | apply pw_below_drewN | apply below_drew1 | refine below_set ?_ GE444.out | refine below_set ?_ GE445.out | refine below_set ?_ GE446.out | refine below_set ?_ GE453.out | refine below_set ?_ GE454.out) | exact HB.out)⟩⟩
                 ·
                  rw [if_neg c114] at H; have c114b0 : decide (a0_1 < a1_1) = false := decide_eq_false c114; clear c114; have H' := Aside0.mk H; clear H; have hnb141 := NB454_444.out; have hnc141 := NB444_454.out; have hnb142 := NB454_445.out; have hnc142 := NB445_454.out; have hnb143 := NB454_446.out; have hnc143 := NB446_454.out; have hnb144 := NB454_453.out; have hnc144 := NB453_454.out; have hcz145_0 := cl_ (v := .int .i64 x455000_4) BK454 0; have hcz145_1 := cl_ (v := .int .i64 x455001_4) BK454 1; have hfz145_0 := blk_frozen BK454.out 0; have hfz145_1 := blk_frozen BK454.out 1; have hnb146 := NB444_445.out; have hnc146 := NB445_444.out; have hnb147 := NB444_446.out; have hnc147 := NB446_444.out; have hnb148 := NB444_453.out; have hnc148 := NB453_444.out; have hcz149_0 := cl_ (v := .int .i64 a0_0) BK444 0; have hcz149_1 := cl_ (v := .int .i64 a0_1) BK444 1; have hfz149_0 := blk_frozen BK444.out 0; have hfz149_1 := blk_frozen BK444.out 1; have hnb150 := NB445_446.out; have hnc150 := NB446_445.out; have hnb151 := NB445_453.out; have hnc151 := NB453_445.out; have hcz152_0 := cl_ (v := .int .i64 a1_0) BK445 0; have hcz152_1 := cl_ (v := .int .i64 a1_1) BK445 1; have hfz152_0 := blk_frozen BK445.out 0; have hfz152_1 := blk_frozen BK445.out 1
                  go_wp2
                  go_roundg kj91
                  case measure => have := HJ3.out; have := HJ45.out; have := HJ72.out; have := HK4.out; have := HJ91.out; omega
                  case rel => exact ⟨(wrap64 (x49_4 + 1)), (ji113), (x455001_4), (by first | rfl | (simp; done) | (simp [*]; done)), H', ⟨by have := HJ3.out; have := HJ45.out; have := HJ72.out; have := HK4.out; have := HJ91.out; omega⟩, bf_ BK444 NB444_454, bf_ BK445 NB445_454, bf_ BK446 NB446_454, bf_ BK453 NB453_454, ⟨by (with_reducible repeat (first | refine blk_drewN ?_ _ | refine blk_drew ?_ | refine blk_alloc ?_ _)); refine blk_put (cs := #[.int .i64 x455000_4, .int .i64 x455001_4]) ?_ 0 _ rfl; (with_reducible repeat (first | refine blk_drewN ?_ _ | refine blk_drew ?_ | refine blk_alloc ?_ _)); exact BK454.out⟩, ⟨by repeat (first | (with_reducible first | exact HB.out | apply below_alloc | apply pw_below_drewN | apply below_drew1 | refine below_set ?_ GE444.out | refine below_set ?_ GE445.out | refine below_set ?_ GE446.out | refine below_set ?_ GE453.out | refine below_set ?_ GE454.out) | exact HB.out)⟩⟩
                ·
                 replace c112 := Bool.eq_false_iff.mpr c112; subst c112; have H1 := ifn_ H
                 clear H; have H := H1; clear H1
                 by_cases c153 : a0_1 < a1_1
                 ·
                  rw [if_pos c153] at H; have c153b0 : decide (a0_1 < a1_1) = true := decide_eq_true c153; clear c153
                  by_cases c154 : (rd l2 x49_4) ≥ a1_1
                  ·
                   rw [if_pos c154] at H; have c154b0 : decide (a1_1 ≤ (rd l2 x49_4)) = true := decide_eq_true c154; clear c154; obtain ⟨ji155, hji155⟩ : ∃ j_ : Int, (mn x455001_4 (rd l2 x49_4)) = j_ := ⟨_, rfl⟩; replace H : (impl_RangeWiden.l0 kj91 l2 (l2.length : Int) (wrap64 (x49_4 + 1)) a0_0 a0_1 a1_0 a1_1 x455000_4 ji155) = some (r1, r2) := by first | (rw [hji155] at H; exact H) | (simp only [hji155] at H ⊢; exact H)
                   have hji155_ : (if (rd l2 x49_4) < x455001_4 then (rd l2 x49_4) else x455001_4) = ji155 := hji155; have H' := Aside0.mk H; clear H; have hnb156 := NB444_445.out; have hnc156 := NB445_444.out; have hnb157 := NB444_446.out; have hnc157 := NB446_444.out; have hnb158 := NB444_453.out; have hnc158 := NB453_444.out; have hnb159 := NB444_454.out; have hnc159 := NB454_444.out; have hcz160_0 := cl_ (v := .int .i64 a0_0) BK444 0; have hcz160_1 := cl_ (v := .int .i64 a0_1) BK444 1; have hfz160_0 := blk_frozen BK444.out 0; have hfz160_1 := blk_frozen BK444.out 1; have hnb161 := NB445_446.out; have hnc161 := NB446_445.out; have hnb162 := NB445_453.out; have hnc162 := NB453_445.out; have hnb163 := NB445_454.out; have hnc163 := NB454_445.out; have hcz164_0 := cl_ (v := .int .i64 a1_0) BK445 0; have hcz164_1 := cl_ (v := .int .i64 a1_1) BK445 1; have hfz164_0 := blk_frozen BK445.out 0; have hfz164_1 := blk_frozen BK445.out 1; have hnb165 := NB454_446.out; have hnc165 := NB446_454.out; have hnb166 := NB454_453.out; have hnc166 := NB453_454.out; have hcz167_0 := cl_ (v := .int .i64 x455000_4) BK454 0; have hcz167_1 := cl_ (v := .int .i64 x455001_4) BK454 1; have hfz167_0 := blk_frozen BK454.out 0; have hfz167_1 := blk_frozen BK454.out 1
                   go_wp2
                   go_roundg kj91
                   case measure => have := HJ3.out; have := HJ45.out; have := HJ72.out; have := HK4.out; have := HJ91.out; omega
                   case rel => exact ⟨(wrap64 (x49_4 + 1)), (x455000_4), (ji155), (by first | rfl | (simp; done) | (simp [*]; done)), H', ⟨by have := HJ3.out; have := HJ45.out; have := HJ72.out; have := HK4.out; have := HJ91.out; omega⟩, bf_ BK444 NB444_454, bf_ BK445 NB445_454, bf_ BK446 NB446_454, bf_ BK453 NB453_454, ⟨by (with_reducible repeat (first | refine blk_drewN ?_ _ | refine blk_drew ?_ | refine blk_alloc ?_ _)); refine blk_put (cs := #[.int .i64 x455000_4, .int .i64 x455001_4]) ?_ 1 _ rfl; (with_reducible repeat (first | refine blk_drewN ?_ _ | refine blk_drew ?_ | refine blk_alloc ?_ _)); exact BK454.out⟩, ⟨by repeat (first | (with_reducible first | exact HB.out | apply below_alloc | apply pw_below_drewN | apply below_drew1 | refine below_set ?_ GE444.out | refine below_set ?_ GE445.out | refine below_set ?_ GE446.out | refine below_set ?_ GE453.out | refine below_set ?_ GE454.out) | exact HB.out)⟩⟩
                  ·
                   rw [if_neg c154] at H; have c154b0 : decide (a1_1 ≤ (rd l2 x49_4)) = false := decide_eq_false c154; clear c154; have H' := Aside0.mk H; clear H; have hnb168 := NB444_445.out; have hnc168 := NB445_444.out; have hnb169 := NB444_446.out; have hnc169 := NB446_444.out; have hnb170 := NB444_453.out; have hnc170 := NB453_444.out; have hnb171 := NB444_454.out; have hnc171 := NB454_444.out; have hcz172_0 := cl_ (v := .int .i64 a0_0) BK444 0; have hcz172_1 := cl_ (v := .int .i64 a0_1) BK444 1; have hfz172_0 := blk_frozen BK444.out 0; have hfz172_1 := blk_frozen BK444.out 1; have hnb173 := NB445_446.out; have hnc173 := NB446_445.out; have hnb174 := NB445_453.out; have hnc174 := NB453_445.out; have hnb175 := NB445_454.out; have hnc175 := NB454_445.out; have hcz176_0 := cl_ (v := .int .i64 a1_0) BK445 0; have hcz176_1 := cl_ (v := .int .i64 a1_1) BK445 1; have hfz176_0 := blk_frozen BK445.out 0; have hfz176_1 := blk_frozen BK445.out 1
                   go_wp2
                   go_roundg kj91
                   case measure => have := HJ3.out; have := HJ45.out; have := HJ72.out; have := HK4.out; have := HJ91.out; omega
                   case rel => exact ⟨(wrap64 (x49_4 + 1)), (x455000_4), (x455001_4), (by first | rfl | (simp; done) | (simp [*]; done)), H', ⟨by have := HJ3.out; have := HJ45.out; have := HJ72.out; have := HK4.out; have := HJ91.out; omega⟩, bk_ BK444, bk_ BK445, bk_ BK446, bk_ BK453, bk_ BK454, ⟨by repeat (first | (with_reducible first | exact HB.out | apply below_alloc | apply pw_below_drewN | apply below_drew1 | refine below_set ?_ GE444.out | refine below_set ?_ GE445.out | refine below_set ?_ GE446.out | refine below_set ?_ GE453.out | refine below_set ?_ GE454.out) | exact HB.out)⟩⟩
                 ·
                  rw [if_neg c153] at H; have c153b0 : decide (a0_1 < a1_1) = false := decide_eq_false c153; clear c153; have H' := Aside0.mk H; clear H; have hnb177 := NB444_445.out; have hnc177 := NB445_444.out; have hnb178 := NB444_446.out; have hnc178 := NB446_444.out; have hnb179 := NB444_453.out; have hnc179 := NB453_444.out; have hnb180 := NB444_454.out; have hnc180 := NB454_444.out; have hcz181_0 := cl_ (v := .int .i64 a0_0) BK444 0; have hcz181_1 := cl_ (v := .int .i64 a0_1) BK444 1; have hfz181_0 := blk_frozen BK444.out 0; have hfz181_1 := blk_frozen BK444.out 1; have hnb182 := NB445_446.out; have hnc182 := NB446_445.out; have hnb183 := NB445_453.out; have hnc183 := NB453_445.out; have hnb184 := NB445_454.out; have hnc184 := NB454_445.out; have hcz185_0 := cl_ (v := .int .i64 a1_0) BK445 0; have hcz185_1 := cl_ (v := .int .i64 a1_1) BK445 1; have hfz185_0 := blk_frozen BK445.out 0; have hfz185_1 := blk_frozen BK445.out 1
                  go_wp2
                  go_roundg kj91
                  case measure => have := HJ3.out; have := HJ45.out; have := HJ72.out; have := HK4.out; have := HJ91.out; omega
                  case rel => exact ⟨(wrap64 (x49_4 + 1)), (x455000_4), (x455001_4), (by first | rfl | (simp; done) | (simp [*]; done)), H', ⟨by have := HJ3.out; have := HJ45.out; have := HJ72.out; have := HK4.out; have := HJ91.out; omega⟩, bk_ BK444, bk_ BK445, bk_ BK446, bk_ BK453, bk_ BK454, ⟨by repeat (first | (with_reducible first | exact HB.out | apply below_alloc | apply pw_below_drewN | apply below_drew1 | refine below_set ?_ GE444.out | refine below_set ?_ GE445.out | refine below_set ?_ GE446.out | refine below_set ?_ GE453.out | refine below_set ?_ GE454.out) | exact HB.out)⟩⟩
             ·
              rw [if_neg c91] at H; exact absurd H (by simp)
            ·
             rw [if_neg c90] at H; exact absurd H (by simp)
           ·
            rw [if_neg c89] at H; have c89b0 : decide (x49_4 < (l2.length : Int)) = false := decide_eq_false c89; clear c89; simp only [Option.some.injEq, Prod.mk.injEq] at H; obtain ⟨rfl, rfl⟩ := H; have hnb186 := NB454_446.out; have hnc186 := NB446_454.out; have hcz187_0 := cl_ (v := .int .i64 x455000_4) BK454 0; have hcz187_1 := cl_ (v := .int .i64 x455001_4) BK454 1; have hfz187_0 := blk_frozen BK454.out 0; have hfz187_1 := blk_frozen BK454.out 1; have hcz188_0 := cl_ (v := .int .i64 0) BK446 0; have hcz188_1 := cl_ (v := .int .i64 0) BK446 1; have hfz188_0 := blk_frozen BK446.out 0; have hfz188_1 := blk_frozen BK446.out 1
            go_wp2
            refine bodyPost_ret (results_cell_row rfl _ _ gb446 25 #[.int .i64 x455000_4, .int .i64 x455001_4] (0, 0) _ rfl (bp_ BK446) Tryd.underlying25 rfl (by kernel_rfl)) rfl ?_; exact ⟨by first | rfl | (simp [errW_none, errW_some] <;> rfl) | (simp [*, errW_none, errW_some] <;> rfl), by repeat (first | (with_reducible first | exact HB.out | apply below_alloc | apply pw_below_drewN | apply below_drew1 | refine below_set ?_ GE446.out) | exact HB.out)⟩

end Go.Proofs.YtmibaaicadgchaaDoor.Q
