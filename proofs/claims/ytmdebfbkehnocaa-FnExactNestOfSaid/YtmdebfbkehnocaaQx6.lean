/- Functions of the translation as Lean functions, each with a proof that a call answers so; out of the seat, by this claim's own program prt.py. -/
import Derived.Test.YtmdebfbkehnocaaWRepsOne
import Derived.Test.YtmdebfbkehnocaaQx0
import Derived.Test.YtmdebfbkehnocaaQx3
import Derived.Test.YtmdebfbkehnocaaQx4
import Derived.Test.YtmdebfbkehnocaaQx5
import Derived.Test.YtmdebfbkehnocaaQStep
namespace Go.Proofs.Ytmdebfbkehnocaa.Q
open Go.RowKit Go.Proofs.YtmdebfbkehnocaaW.PrintWords Go.Proofs.YtmdebfbkehnocaaW.PrintLast Go.Proofs.YtmdebfbkehnocaaW.PrintMore
attribute [local go_sem] max2_int min2_int max_two min_two max_three min_three max_four min_four   -- for this text's walks alone
set_option linter.unusedVariables false
set_option linter.unusedSimpArgs false

/-! ### spec_NestOf: function 5 -/
mutual
def spec_NestOf.l0 : Nat → List (List Int) → List Int → List Int → Int → Int → List (S58) → Option ((List (List Int)))
 | 0, _, _, _, _, _, _ => none
 | k + 1, x3, x4, x5, x6, x140000, x140001 => if x6 < x140000 then (spec_NestOf.l1 k x3 x4 x5 x6 (([] : List Int)) 0 x140000 x140001) else (some x3)
def spec_NestOf.l1 : Nat → List (List Int) → List Int → List Int → Int → List Int → Int → Int → List (S58) → Option ((List (List Int)))
 | 0, _, _, _, _, _, _, _, _ => none
 | k + 1, x3, x4, x5, x6, x7, x8, x140000, x140001 => if x8 < (x5.length : Int) then (if 0 ≤ x8 then (spec_NestOf.j2 k x3 x4 x5 x6 x7 x8 (decide ((rd x5 x8) ≤ x6)) x140000 x140001) else (none)) else (spec_NestOf.j2 k x3 x4 x5 x6 x7 x8 false x140000 x140001)
def spec_NestOf.j2 : Nat → List (List Int) → List Int → List Int → Int → List Int → Int → Bool → Int → List (S58) → Option ((List (List Int)))
 | 0, _, _, _, _, _, _, _, _, _ => none
 | k + 1, x3, x4, x5, x6, x7, x8, x36, x140000, x140001 => if x36 = true then (if 0 ≤ x8 then (if x8 < (x5.length : Int) then (if 0 ≤ (rd x5 x8) then (if (rd x5 x8) < (x4.length : Int) then (if (rd x4 (rd x5 x8)) ≥ x6 then (if x7.length < 17592186044416 then (spec_NestOf.l1 k x3 x4 x5 x6 (x7 ++ [rd x5 x8]) (wrap64 (x8 + 1)) x140000 x140001) else (none)) else (spec_NestOf.l1 k x3 x4 x5 x6 x7 (wrap64 (x8 + 1)) x140000 x140001)) else (none)) else (none)) else (none)) else (none)) else (if x3.length < 5864062014805 then (spec_NestOf.l0 k (x3 ++ [x7]) x4 x5 (wrap64 (x6 + 1)) x140000 x140001) else (none))
end
def spec_NestOf.f (k : Nat) (a0_0 : Int) (l0_1 : List (S58)) : Option ((List (List Int))) := (some (([] : List (List Int)) : List (List Int))).bind fun y140 => ((spec_GraphOk.f k a0_0 l0_1).bind fun t143 => (if t143 = true then ((spec_l04Lasts.f k a0_0 l0_1).bind fun t144 => ((spec_HeadsOf.f k a0_0 l0_1).bind fun t147 => (spec_NestOf.l0 k y140 t144 t147 0 a0_0 l0_1))) else (some y140)))
theorem spec_NestOf.mono_l : ∀ k, (∀ y0 y1 y2 y3 y4 y5, LeO (spec_NestOf.l0 k y0 y1 y2 y3 y4 y5) (spec_NestOf.l0 (k + 1) y0 y1 y2 y3 y4 y5)) ∧ (∀ y0 y1 y2 y3 y4 y5 y6 y7, LeO (spec_NestOf.l1 k y0 y1 y2 y3 y4 y5 y6 y7) (spec_NestOf.l1 (k + 1) y0 y1 y2 y3 y4 y5 y6 y7)) ∧ (∀ y0 y1 y2 y3 y4 y5 y6 y7 y8, LeO (spec_NestOf.j2 k y0 y1 y2 y3 y4 y5 y6 y7 y8) (spec_NestOf.j2 (k + 1) y0 y1 y2 y3 y4 y5 y6 y7 y8))
 | 0 => ⟨fun _ _ _ _ _ _ r h => by simp [spec_NestOf.l0] at h, fun _ _ _ _ _ _ _ _ r h => by simp [spec_NestOf.l1] at h, fun _ _ _ _ _ _ _ _ _ r h => by simp [spec_NestOf.j2] at h⟩
 | k + 1 => by
  obtain ⟨ih0, ih1, ih2⟩ := spec_NestOf.mono_l k; refine ⟨?_, ?_, ?_⟩
  ·
   intro y0 y1 y2 y3 y4 y5; unfold spec_NestOf.l0
   repeat' first
   | (with_reducible exact ih0 _ _ _ _ _ _)
   | (with_reducible exact ih1 _ _ _ _ _ _ _ _)
   | (with_reducible exact ih2 _ _ _ _ _ _ _ _ _)
   | (with_reducible exact spec_GraphOk.mono _ _ _)
   | (with_reducible exact spec_HeadsOf.mono _ _ _)
   | (with_reducible exact spec_l04Lasts.mono _ _ _)
   | (with_reducible exact LeO.refl _)
   | (with_reducible exact LeO.none _)
   | (with_reducible refine LeO.ite ?_ ?_)
   | (with_reducible refine LeO.bind ?_ (fun _ => ?_))
   | exact ih0 _ _ _ _ _ _
   | exact ih1 _ _ _ _ _ _ _ _
   | exact ih2 _ _ _ _ _ _ _ _ _
   | exact spec_GraphOk.mono _ _ _
   | exact spec_HeadsOf.mono _ _ _
   | exact spec_l04Lasts.mono _ _ _
   | exact LeO.none _
   | refine LeO.ite ?_ ?_
   | refine LeO.bind ?_ (fun _ => ?_)
  ·
   intro y0 y1 y2 y3 y4 y5 y6 y7; unfold spec_NestOf.l1
   repeat' first
   | (with_reducible exact ih0 _ _ _ _ _ _)
   | (with_reducible exact ih1 _ _ _ _ _ _ _ _)
   | (with_reducible exact ih2 _ _ _ _ _ _ _ _ _)
   | (with_reducible exact spec_GraphOk.mono _ _ _)
   | (with_reducible exact spec_HeadsOf.mono _ _ _)
   | (with_reducible exact spec_l04Lasts.mono _ _ _)
   | (with_reducible exact LeO.refl _)
   | (with_reducible exact LeO.none _)
   | (with_reducible refine LeO.ite ?_ ?_)
   | (with_reducible refine LeO.bind ?_ (fun _ => ?_))
   | exact ih0 _ _ _ _ _ _
   | exact ih1 _ _ _ _ _ _ _ _
   | exact ih2 _ _ _ _ _ _ _ _ _
   | exact spec_GraphOk.mono _ _ _
   | exact spec_HeadsOf.mono _ _ _
   | exact spec_l04Lasts.mono _ _ _
   | exact LeO.none _
   | refine LeO.ite ?_ ?_
   | refine LeO.bind ?_ (fun _ => ?_)
  ·
   intro y0 y1 y2 y3 y4 y5 y6 y7 y8; unfold spec_NestOf.j2
   repeat' first
   | (with_reducible exact ih0 _ _ _ _ _ _)
   | (with_reducible exact ih1 _ _ _ _ _ _ _ _)
   | (with_reducible exact ih2 _ _ _ _ _ _ _ _ _)
   | (with_reducible exact spec_GraphOk.mono _ _ _)
   | (with_reducible exact spec_HeadsOf.mono _ _ _)
   | (with_reducible exact spec_l04Lasts.mono _ _ _)
   | (with_reducible exact LeO.refl _)
   | (with_reducible exact LeO.none _)
   | (with_reducible refine LeO.ite ?_ ?_)
   | (with_reducible refine LeO.bind ?_ (fun _ => ?_))
   | exact ih0 _ _ _ _ _ _
   | exact ih1 _ _ _ _ _ _ _ _
   | exact ih2 _ _ _ _ _ _ _ _ _
   | exact spec_GraphOk.mono _ _ _
   | exact spec_HeadsOf.mono _ _ _
   | exact spec_l04Lasts.mono _ _ _
   | exact LeO.none _
   | refine LeO.ite ?_ ?_
   | refine LeO.bind ?_ (fun _ => ?_)
theorem spec_NestOf.mono : ∀ a0 a1 k, LeO (spec_NestOf.f k a0 a1) (spec_NestOf.f (k + 1) a0 a1) := by
 intro a0 a1 k; obtain ⟨ih0, ih1, ih2⟩ := spec_NestOf.mono_l k; unfold spec_NestOf.f
 repeat' first
   | (with_reducible exact ih0 _ _ _ _ _ _)
   | (with_reducible exact ih1 _ _ _ _ _ _ _ _)
   | (with_reducible exact ih2 _ _ _ _ _ _ _ _ _)
   | (with_reducible exact spec_GraphOk.mono _ _ _)
   | (with_reducible exact spec_HeadsOf.mono _ _ _)
   | (with_reducible exact spec_l04Lasts.mono _ _ _)
   | (with_reducible exact LeO.refl _)
   | (with_reducible exact LeO.none _)
   | (with_reducible refine LeO.ite ?_ ?_)
   | (with_reducible refine LeO.bind ?_ (fun _ => ?_))
   | exact ih0 _ _ _ _ _ _
   | exact ih1 _ _ _ _ _ _ _ _
   | exact ih2 _ _ _ _ _ _ _ _ _
   | exact spec_GraphOk.mono _ _ _
   | exact spec_HeadsOf.mono _ _ _
   | exact spec_l04Lasts.mono _ _ _
   | exact LeO.none _
   | refine LeO.ite ?_ ?_
   | refine LeO.bind ?_ (fun _ => ?_)
set_option maxHeartbeats 8000000 in
set_option maxRecDepth 100000 in
theorem spec_NestOf.calls (k : Nat) (a0_0 : Int) (A0_1 : Option Addr) (c0_1 : Nat) (l0_1 : List (S58)) (r : List (List Int)) (w : World) (hr0_1 : Kd.C k58 w A0_1 l0_1.length l0_1) (hc0_1 : l0_1.length ≤ c0_1) (h : spec_NestOf.f k a0_0 l0_1 = some r) :
  Calls Try.prog 5 #[.agg #[.int .i64 a0_0, .slice A0_1 l0_1.length c0_1]] w fun e w' => ∃ v0_ : Value, e = .returned (v0_) ∧ Kd.S (Kd.slice 3 (Kd.int .i64)) 39 w' w.heap.size (fun _ => True) v0_ r ∧ Below w.heap.size w w' := by
 have hu30 := Try.underlying30; have HR0_1 := Aside0.mk hr0_1; have HC0_1 := Aside0.mk hc0_1; clear hr0_1 hc0_1; have HB := Aside0.mk (Below.refl w.heap.size w); have H : ((some (([] : List (List Int)) : List (List Int))).bind fun y140 => ((spec_GraphOk.f k a0_0 l0_1).bind fun t143 => (if t143 = true then ((spec_l04Lasts.f k a0_0 l0_1).bind fun t144 => ((spec_HeadsOf.f k a0_0 l0_1).bind fun t147 => (spec_NestOf.l0 k y140 t144 t147 0 a0_0 l0_1))) else (some y140)))) = some r := h; clear h; obtain ⟨y140, hy140⟩ : ∃ y_ : List (List Int), y_ = (([] : List (List Int))) := ⟨_, rfl⟩; replace H : ((spec_GraphOk.f k a0_0 l0_1).bind fun t143 => (if t143 = true then ((spec_l04Lasts.f k a0_0 l0_1).bind fun t144 => ((spec_HeadsOf.f k a0_0 l0_1).bind fun t147 => (spec_NestOf.l0 k y140 t144 t147 0 a0_0 l0_1))) else (some y140))) = some r := by first | (rw [hy140]; with_reducible exact H) | (have H2_ := (Option.bind_some _ _).symm.trans H; rw [hy140]; with_reducible exact H2_) | (have H2_ := (Option.bind_some _ _).symm.trans H; with_reducible exact H2_) | with_reducible exact H | (rw [hy140]; exact H) | exact H
 have Ny140 := Aside0.mk hy140; clear hy140; replace H := Option.bind_eq_some_iff.mp H; obtain ⟨t143, A20, H⟩ := H; (try dsimp only at H); have A2 := Aside0.mk A20; clear A20
 by_cases c3 : t143 = true
 ·
  subst c3; have H1 := ifp_ H
  clear H; have H := H1; clear H1; replace H := Option.bind_eq_some_iff.mp H; obtain ⟨t144, A40, H⟩ := H; (try dsimp only at H); have A4 := Aside0.mk A40; clear A40; replace H := Option.bind_eq_some_iff.mp H; obtain ⟨t147, A50, H⟩ := H; replace H : (spec_NestOf.l0 k y140 t144 t147 0 a0_0 l0_1) = some r := H; have A5 := Aside0.mk A50; clear A50; have H' := Aside0.mk H; clear H
  go_enter Try.func5, Try.ntmps5
  go_wp2_with (first | ((with_reducible refine gate_dst (N := 1) rfl ?_); refine box_y 1 #[.int .i64 a0_0, .slice A0_1 l0_1.length c0_1] 30 (h := ?_); intro gb139 hg w6 hbox hb; have n0_ := Aside0.mk (below_step (sq_below HB.out) hb); have n1_ := Aside0.mk (hbox); have n2_ := ge_ hg (below_size (sq_below HB.out)); have n3_ := ge_ hg (below_size (sq_below HB.out)); clear HB; have HB := n0_; have BK139 := n1_; have GW139 := n2_; have GE139 := n3_; clear n0_ n1_ n2_ n3_; clear hb hbox hg) | ((with_reducible refine gate_dst (N := 9) rfl ?_); refine Kd.S_lit (Kd.slice 3 (Kd.int .i64)) _ 39 ?hg (N := 9) ?hd (xs := ([] : List (List Int))) (inner := []) (ok := fun _ => True) (okp := fun _ => True) ?hr ?hp (fun _ hk => hk) trivial (Below.refl _ _) (Nat.le_refl _) (by simp) ?_; (case hd => rfl); (case hg => rfl); (case hr => first | (go_simp; done) | (go_simp; rfl)); (case hp => exact (Reps.none _ _)); intro v141 w7 ho8 hb hg_ hnew_; clear hg_ hnew_; (first | rw [← Ny140.out] at ho8 | (simp only [Int.reduceToNat] at ho8; rw [← Ny140.out] at ho8)); have n0_ := Aside0.mk (Kd.S_lower ho8 (below_size (sq_below1 HB.out GE139.out))); have n1_ := Aside0.mk (blk_below (sq_blk BK139.out) hb); have n2_ := Aside0.mk (below_step (sq_below1 HB.out GE139.out) hb); clear BK139; clear HB; have HO142 := n0_; have BK139 := n1_; have HB := n2_; clear n0_ n1_ n2_; clear hb ho8; have hcz9_0 := cl_ (v := .int .i64 a0_0) BK139 0; have hcz9_1 := cl_ (v := .slice A0_1 l0_1.length c0_1) BK139 1; have hfz9_0 := blk_frozen BK139.out 0; have hfz9_1 := blk_frozen BK139.out 1) | ((with_reducible refine gate_callee (f := 14) rfl ?_); refine gl_ 11 Try.func14 #[.agg #[.int .i64 a0_0, .slice A0_1 l0_1.length c0_1]] (h := ?_); (with_reducible refine (spec_GraphOk.calls k a0_0 _ _ l0_1 true _ ?side1 ?side2 A2.out).mono ?_); (case side1 => exact sq_c (Kd.C_below HR0_1.out HB.out)); (case side2 => exact HC0_1.out); rintro e w10 ⟨rfl, hb⟩; refine ⟨_, rfl, ?_⟩; replace HO142 := Aside0.mk (Kd.S_below (by (with_reducible repeat (first | apply Kd.S_alloc | apply Kd.S_drewN | apply Kd.S_drew)); exact HO142.out) hb); replace BK139 := bb_ BK139 hb; replace HB := hb1_ HB hb GE139; (try clear hb); have hcz11_0 := cl_ (v := .int .i64 a0_0) BK139 0; have hcz11_1 := cl_ (v := .slice A0_1 l0_1.length c0_1) BK139 1; have hfz11_0 := blk_frozen BK139.out 0; have hfz11_1 := blk_frozen BK139.out 1) | ((with_reducible refine gate_callee (f := 15) rfl ?_); refine gl_ 15 Try.func15 #[.agg #[.int .i64 a0_0, .slice A0_1 l0_1.length c0_1]] (h := ?_); (with_reducible refine (spec_l04Lasts.calls k a0_0 _ _ l0_1 t144 _ ?side1 ?side2 A4.out).mono ?_); (case side1 => exact sq_c (Kd.C_below HR0_1.out HB.out)); (case side2 => exact HC0_1.out); rintro e w12 ⟨v145, rfl, ho0, hb⟩; refine ⟨_, rfl, ?_⟩; have n0_ := Aside0.mk (Kd.S_elder' (by (with_reducible repeat (first | apply Kd.S_alloc | apply Kd.S_drewN | apply Kd.S_drew)); exact HO142.out) (Kd.R_base ho0) hb); have n1_ := Aside0.mk (Kd.R_lower ho0 (below_size (sq_below1 HB.out GE139.out))); have n2_ := Aside0.mk (blk_below (sq_blk BK139.out) hb); have n3_ := Aside0.mk (below_step (sq_below1 HB.out GE139.out) hb); clear HO142; clear BK139; clear HB; have HO142 := n0_; have HO146 := n1_; have BK139 := n2_; have HB := n3_; clear n0_ n1_ n2_ n3_; (try clear hb); (try clear ho0); have hcz13_0 := cl_ (v := .int .i64 a0_0) BK139 0; have hcz13_1 := cl_ (v := .slice A0_1 l0_1.length c0_1) BK139 1; have hfz13_0 := blk_frozen BK139.out 0; have hfz13_1 := blk_frozen BK139.out 1) | ((with_reducible refine gate_callee (f := 16) rfl ?_); refine gl_ 17 Try.func16 #[.agg #[.int .i64 a0_0, .slice A0_1 l0_1.length c0_1]] (h := ?_); (with_reducible refine (spec_HeadsOf.calls k a0_0 _ _ l0_1 t147 _ ?side1 ?side2 A5.out).mono ?_); (case side1 => exact sq_c (Kd.C_below HR0_1.out HB.out)); (case side2 => exact HC0_1.out); rintro e w14 ⟨v148, rfl, ho0, hb⟩; refine ⟨_, rfl, ?_⟩; have n0_ := Aside0.mk (Kd.S_elder' (by (with_reducible repeat (first | apply Kd.S_alloc | apply Kd.S_drewN | apply Kd.S_drew)); exact HO142.out) (Kd.R_base ho0) hb); have n1_ := Aside0.mk (Kd.R_elder' (sq_row HO146.out) (Kd.R_base ho0) hb); have n2_ := Aside0.mk (Kd.R_lower (Kd.R_new' ho0 (Kd.R_lt (sq_row HO146.out))) (below_size (sq_below1 HB.out GE139.out))); have n3_ := Aside0.mk (blk_below (sq_blk BK139.out) hb); have n4_ := Aside0.mk (below_step (sq_below1 HB.out GE139.out) hb); clear HO142; clear HO146; clear BK139; clear HB; have HO142 := n0_; have HO146 := n1_; have HO149 := n2_; have BK139 := n3_; have HB := n4_; clear n0_ n1_ n2_ n3_ n4_; (try clear hb); (try clear ho0)))
  go_loopg [3, 6] k (fun kq v3 v6 w' => ∃ (x3_1 : List (List Int)) (x6_1 : Int), v6 = .int .i64 x6_1 ∧ Aside0 (spec_NestOf.l0 kq x3_1 t144 t147 x6_1 a0_0 l0_1 = some r) ∧ Aside0 (kq ≤ k) ∧ Aside0 (Kd.S (Kd.slice 3 (Kd.int .i64)) 39 w' w.heap.size (fun k_ => some k_ ≠ (v145 : Value).ownBlock ∧ some k_ ≠ (v148 : Value).ownBlock) v3 x3_1) ∧ Aside0 (Kd.R (Kd.int .i64) 3 w' w.heap.size (fun k_ => some k_ ≠ (v148 : Value).ownBlock) v145 t144) ∧ Aside0 (Kd.R (Kd.int .i64) 3 w' w.heap.size (fun k_ => some k_ ≠ (v145 : Value).ownBlock) v148 t147) ∧ Aside0 (w'.heap[gb139]? = some (.cells #[.int .i64 a0_0, (.slice A0_1 l0_1.length c0_1)] 30 (0, 0))) ∧ Aside0 (Below w.heap.size w w'))
  case atStart => exact ⟨(y140), (0), (by first | rfl | (simp; done) | (simp [*]; done)), H', ⟨Nat.le_refl _⟩, ⟨by (with_reducible repeat (first | apply Kd.S_alloc | apply Kd.S_drewN | apply Kd.S_drew)); exact Kd.S_mono HO142.out (fun _ hk => ⟨hk.1.2, hk.2⟩)⟩, ⟨by (with_reducible repeat (first | apply Kd.R_alloc | apply Kd.R_drewN | apply Kd.R_drew)); exact Kd.R_mono HO146.out (fun _ hk => hk.2)⟩, ⟨by (with_reducible repeat (first | apply Kd.R_alloc | apply Kd.R_drewN | apply Kd.R_drew)); exact Kd.R_mono HO149.out (fun _ hk => hk.2)⟩, bk_ BK139, ⟨sq_below1 HB.out GE139.out⟩⟩
  case round =>
   clear H'
   try clear c1
   try clear p2
   try clear c3
   try clear c5
   try clear c14
   try clear hcz11_0
   try clear hcz11_1
   try clear hcz13_0
   try clear hcz13_1
   try clear hcz9_0
   try clear hcz9_1
   try clear hfz11_0
   try clear hfz11_1
   try clear hfz13_0
   try clear hfz13_1
   try clear hfz9_0
   try clear hfz9_1
   obtain ⟨x3_1, x6_1, rfl, HA, HK1, HO_3, HO_4, HO_5, BK139, HB⟩ := hrel; cases gk with
   | zero => exact absurd HA.out (by simp [spec_NestOf.l0])
   | succ k1 =>
    have H := HA.out; clear HA; simp only [spec_NestOf.l0] at H
    by_cases c15 : x6_1 < a0_0
    ·
     rw [if_pos c15] at H; have c15b0 : decide (x6_1 < a0_0) = true := decide_eq_true c15; clear c15; obtain ⟨y150, hy150⟩ : ∃ y_ : List Int, y_ = (([] : List Int)) := ⟨_, rfl⟩; replace H : (spec_NestOf.l1 k1 x3_1 t144 t147 x6_1 y150 0 a0_0 l0_1) = some r := by first | (rw [hy150]; with_reducible exact H) | (have H2_ := (Option.bind_some _ _).symm.trans H; rw [hy150]; with_reducible exact H2_) | (have H2_ := (Option.bind_some _ _).symm.trans H; with_reducible exact H2_) | with_reducible exact H | (rw [hy150]; exact H) | exact H
     have Ny150 := Aside0.mk hy150; clear hy150; have H' := Aside0.mk H; clear H; have hcz16_0 := cl_ (v := .int .i64 a0_0) BK139 0; have hcz16_1 := cl_ (v := .slice A0_1 l0_1.length c0_1) BK139 1; have hfz16_0 := blk_frozen BK139.out 0; have hfz16_1 := blk_frozen BK139.out 1
     go_wp2_with (first | ((with_reducible refine gate_dst (N := 24) rfl ?_); refine Kd.R_lit (Kd.int .i64) _ 3 ?hg (N := 24) ?hd (xs := ([] : List Int)) (inner := []) (ok := fun _ => True) (okp := fun _ => True) ?hr ?hp (fun _ hk => hk) trivial (Below.refl _ _) (Nat.le_refl _) (by simp) ?_; (case hd => rfl); (case hg => rfl); (case hr => first | (go_simp; done) | (go_simp; rfl)); (case hp => exact (Reps.none _ _)); intro v151 w17 ho18 hb hg_ hnew_; clear hg_ hnew_; (first | rw [← Ny150.out] at ho18 | (simp only [Int.reduceToNat] at ho18; rw [← Ny150.out] at ho18)); have n0_ := Aside0.mk (Kd.S_elder' (by (with_reducible repeat (first | apply Kd.S_alloc | apply Kd.S_drewN | apply Kd.S_drew)); exact HO_3.out) (Kd.R_base ho18) hb); have n1_ := Aside0.mk (Kd.R_elder' (sq_row HO_4.out) (Kd.R_base ho18) hb); have n2_ := Aside0.mk (Kd.R_elder' (sq_row HO_5.out) (Kd.R_base ho18) hb); have n3_ := Aside0.mk (Kd.R_lower (Kd.R_new' (Kd.R_new' ho18 (Kd.R_lt (sq_row HO_4.out))) (Kd.R_lt (sq_row HO_5.out))) (below_size (sq_below1 HB.out GE139.out))); have n4_ := Aside0.mk (blk_below (sq_blk BK139.out) hb); have n5_ := Aside0.mk (below_step (sq_below1 HB.out GE139.out) hb); clear HO_3; clear HO_4; clear HO_5; clear BK139; clear HB; have HO_3 := n0_; have HO_4 := n1_; have HO_5 := n2_; have HO152 := n3_; have BK139 := n4_; have HB := n5_; clear n0_ n1_ n2_ n3_ n4_ n5_; clear hb ho18))
     go_loopg [7, 8] k1 (fun kq v7 v8 w' => ∃ (x7_2 : List Int) (x8_2 : Int), v8 = .int .i64 x8_2 ∧ Aside0 (spec_NestOf.l1 kq x3_1 t144 t147 x6_1 x7_2 x8_2 a0_0 l0_1 = some r) ∧ Aside0 (kq ≤ k1) ∧ Aside0 (Kd.S (Kd.slice 3 (Kd.int .i64)) 39 w' w.heap.size (fun k_ => some k_ ≠ (v145 : Value).ownBlock ∧ some k_ ≠ (v148 : Value).ownBlock ∧ some k_ ≠ (v7 : Value).ownBlock) u3 x3_1) ∧ Aside0 (Kd.R (Kd.int .i64) 3 w' w.heap.size (fun k_ => some k_ ≠ (v148 : Value).ownBlock ∧ some k_ ≠ (v7 : Value).ownBlock) v145 t144) ∧ Aside0 (Kd.R (Kd.int .i64) 3 w' w.heap.size (fun k_ => some k_ ≠ (v145 : Value).ownBlock ∧ some k_ ≠ (v7 : Value).ownBlock) v148 t147) ∧ Aside0 (Kd.R (Kd.int .i64) 3 w' w.heap.size (fun k_ => some k_ ≠ (v145 : Value).ownBlock ∧ some k_ ≠ (v148 : Value).ownBlock) v7 x7_2) ∧ Aside0 (w'.heap[gb139]? = some (.cells #[.int .i64 a0_0, (.slice A0_1 l0_1.length c0_1)] 30 (0, 0))) ∧ Aside0 (Below w.heap.size w w'))
     case atStart => exact ⟨(y150), (0), (by first | rfl | (simp; done) | (simp [*]; done)), H', ⟨Nat.le_refl _⟩, ⟨by (with_reducible repeat (first | apply Kd.S_alloc | apply Kd.S_drewN | apply Kd.S_drew)); exact Kd.S_mono HO_3.out (fun _ hk => ⟨hk.1.1, ⟨hk.1.2, hk.2⟩⟩)⟩, ⟨by (with_reducible repeat (first | apply Kd.R_alloc | apply Kd.R_drewN | apply Kd.R_drew)); exact HO_4.out⟩, ⟨by (with_reducible repeat (first | apply Kd.R_alloc | apply Kd.R_drewN | apply Kd.R_drew)); exact HO_5.out⟩, ⟨by (with_reducible repeat (first | apply Kd.R_alloc | apply Kd.R_drewN | apply Kd.R_drew)); exact Kd.R_mono HO152.out (fun _ hk => ⟨hk.1.2, hk.2⟩)⟩, bk_ BK139, ⟨sq_below1 HB.out GE139.out⟩⟩
     case round =>
      clear H'
      try clear c1
      try clear p2
      try clear c3
      try clear c5
      try clear c14
      try clear c15
      try clear c15b0
      try clear c16
      try clear hcz11_0
      try clear hcz11_1
      try clear hcz13_0
      try clear hcz13_1
      try clear hcz16_0
      try clear hcz16_1
      try clear hcz9_0
      try clear hcz9_1
      try clear hfz11_0
      try clear hfz11_1
      try clear hfz13_0
      try clear hfz13_1
      try clear hfz16_0
      try clear hfz16_1
      try clear hfz9_0
      try clear hfz9_1
      try clear p2
      obtain ⟨x7_2, x8_2, rfl, HA, HK2, HO_3, HO_4, HO_5, HO_7, BK139, HB⟩ := hrel; cases gk with
      | zero => exact absurd HA.out (by simp [spec_NestOf.l1])
      | succ k2 =>
       have H := HA.out; clear HA; simp only [spec_NestOf.l1] at H; have HC19 := Aside0.mk H; clear H
       go_upto_region 11 with (fail)
       go_cut [36] (fun v36 wc => ∃ (kq : Nat) (x36_18 : Bool), v36 = .bool x36_18 ∧ Aside0 (spec_NestOf.j2 kq x3_1 t144 t147 x6_1 x7_2 x8_2 x36_18 a0_0 l0_1 = some r) ∧ Aside0 (kq ≤ k2) ∧ Aside0 (Kd.S (Kd.slice 3 (Kd.int .i64)) 39 wc w.heap.size (fun k_ => some k_ ≠ (v145 : Value).ownBlock ∧ some k_ ≠ (v148 : Value).ownBlock ∧ some k_ ≠ (u7 : Value).ownBlock) u3 x3_1) ∧ Aside0 (Kd.R (Kd.int .i64) 3 wc w.heap.size (fun k_ => some k_ ≠ (v148 : Value).ownBlock ∧ some k_ ≠ (u7 : Value).ownBlock) v145 t144) ∧ Aside0 (Kd.R (Kd.int .i64) 3 wc w.heap.size (fun k_ => some k_ ≠ (v145 : Value).ownBlock ∧ some k_ ≠ (u7 : Value).ownBlock) v148 t147) ∧ Aside0 (Kd.R (Kd.int .i64) 3 wc w.heap.size (fun k_ => some k_ ≠ (v145 : Value).ownBlock ∧ some k_ ≠ (v148 : Value).ownBlock) u7 x7_2) ∧ Aside0 (wc.heap[gb139]? = some (.cells #[.int .i64 a0_0, (.slice A0_1 l0_1.length c0_1)] 30 (0, 0))) ∧ Aside0 (Below w.heap.size w wc))
       case first =>
        have H := HC19.out; clear HC19
        by_cases c20 : x8_2 < (t147.length : Int)
        ·
         rw [if_pos c20] at H; have c20b0 : decide (x8_2 < (t147.length : Int)) = true := decide_eq_true c20; clear c20
         (first | rw [c20b0] | (simp only [i64_w, i32_w]; rw [c20b0]) | skip)
         by_cases c21 : 0 ≤ x8_2
         ·
          rw [if_pos c21] at H; have c21b0 : decide (0 ≤ x8_2) = true := decide_eq_true c21; clear c21; have H' := Aside0.mk H; clear H; obtain ⟨Ao22, co22, eo22⟩ := Kd.R_slice HO_5.out; subst eo22; have p153 : 0 ≤ (x8_2 : Int) := sq_dec; have q153 : x8_2 < (t147.length : Int) := sq_dec; obtain ⟨ad153, e153, hx153_0⟩ := Kd.at_int (Kd.R_reads' HO_5.out).2.2 x8_2 p153 q153; cases e153; replace p153 := eq_true p153; replace q153 := eq_true q153
          go_wp2
          go_meet
          case rel => exact ⟨_, (decide ((rd t147 x8_2) ≤ x6_1)), (by first | rfl | (simp; done) | (simp [*]; done)), H', ⟨by have := HK1.out; have := HK2.out; first | omega | exact Nat.le_refl _⟩, ⟨by (with_reducible repeat (first | apply Kd.S_alloc | apply Kd.S_drewN | apply Kd.S_drew)); exact HO_3.out⟩, ⟨by (with_reducible repeat (first | apply Kd.R_alloc | apply Kd.R_drewN | apply Kd.R_drew)); exact HO_4.out⟩, ⟨by (with_reducible repeat (first | apply Kd.R_alloc | apply Kd.R_drewN | apply Kd.R_drew)); exact HO_5.out⟩, ⟨by (with_reducible repeat (first | apply Kd.R_alloc | apply Kd.R_drewN | apply Kd.R_drew)); exact HO_7.out⟩, bk_ BK139, ⟨sq_below1 HB.out GE139.out⟩⟩
         ·
          rw [if_neg c21] at H; exact absurd H (by simp)
        ·
         rw [if_neg c20] at H; have c20b0 : decide (x8_2 < (t147.length : Int)) = false := decide_eq_false c20; clear c20
         (first | rw [c20b0] | (simp only [i64_w, i32_w]; rw [c20b0]) | skip)
         have H' := Aside0.mk H; clear H; obtain ⟨Ao23, co23, eo23⟩ := Kd.R_slice HO_5.out; subst eo23
         go_wp2
         go_meet
         case rel => exact ⟨_, (false), (by first | rfl | (simp; done) | (simp [*]; done)), H', ⟨by have := HK1.out; have := HK2.out; first | omega | exact Nat.le_refl _⟩, ⟨by (with_reducible repeat (first | apply Kd.S_alloc | apply Kd.S_drewN | apply Kd.S_drew)); exact HO_3.out⟩, ⟨by (with_reducible repeat (first | apply Kd.R_alloc | apply Kd.R_drewN | apply Kd.R_drew)); exact HO_4.out⟩, ⟨by (with_reducible repeat (first | apply Kd.R_alloc | apply Kd.R_drewN | apply Kd.R_drew)); exact HO_5.out⟩, ⟨by (with_reducible repeat (first | apply Kd.R_alloc | apply Kd.R_drewN | apply Kd.R_drew)); exact HO_7.out⟩, bk_ BK139, ⟨sq_below1 HB.out GE139.out⟩⟩
       case rest =>
        clear HC19
        try clear c1
        try clear p1
        try clear q1
        try clear hx1
        try clear c2
        try clear p2
        try clear c3
        try clear c5
        try clear c14
        try clear c15
        try clear c15b0
        try clear p15
        try clear q15
        try clear hx15
        try clear c16
        try clear c20
        try clear c20b0
        try clear c21
        try clear c21b0
        try clear hcz11_0
        try clear hcz11_1
        try clear hcz13_0
        try clear hcz13_1
        try clear hcz16_0
        try clear hcz16_1
        try clear hcz9_0
        try clear hcz9_1
        try clear hfz11_0
        try clear hfz11_1
        try clear hfz13_0
        try clear hfz13_1
        try clear hfz16_0
        try clear hfz16_1
        try clear hfz9_0
        try clear hfz9_1
        try clear hx153_0
        try clear p153
        try clear p2
        try clear q153
        obtain ⟨kq, x36_18, rfl, HA, HJ18, HO_3, HO_4, HO_5, HO_7, BK139, HB⟩ := hcut; cases kq with
        | zero => exact absurd HA.out (by simp [spec_NestOf.j2])
        | succ kj18 =>
         have H := HA.out; clear HA; simp only [spec_NestOf.j2] at H
         by_cases c24 : x36_18 = true
         ·
          subst c24; have H1 := ifp_ H
          clear H; have H := H1; clear H1
          by_cases c25 : 0 ≤ x8_2
          ·
           rw [if_pos c25] at H; have c25b0 : decide (0 ≤ x8_2) = true := decide_eq_true c25; clear c25
           by_cases c26 : x8_2 < (t147.length : Int)
           ·
            rw [if_pos c26] at H; have c26b0 : decide (x8_2 < (t147.length : Int)) = true := decide_eq_true c26; clear c26
            by_cases c27 : 0 ≤ (rd t147 x8_2)
            ·
             rw [if_pos c27] at H; have c27b0 : decide (0 ≤ (rd t147 x8_2)) = true := decide_eq_true c27; clear c27
             by_cases c28 : (rd t147 x8_2) < (t144.length : Int)
             ·
              rw [if_pos c28] at H; have c28b0 : decide ((rd t147 x8_2) < (t144.length : Int)) = true := decide_eq_true c28; clear c28
              by_cases c29 : (rd t144 (rd t147 x8_2)) ≥ x6_1
              ·
               rw [if_pos c29] at H; have c29b0 : decide (x6_1 ≤ (rd t144 (rd t147 x8_2))) = true := decide_eq_true c29; clear c29
               by_cases c30 : x7_2.length < 17592186044416
               ·
                rw [if_pos c30] at H; have LMc30 := Aside0.mk c30; clear c30; obtain ⟨y157, hy157⟩ : ∃ y_ : List Int, y_ = (x7_2 ++ [rd t147 x8_2]) := ⟨_, rfl⟩; replace H : (spec_NestOf.l1 kj18 x3_1 t144 t147 x6_1 y157 (wrap64 (x8_2 + 1)) a0_0 l0_1) = some r := by first | (rw [hy157]; with_reducible exact H) | (have H2_ := (Option.bind_some _ _).symm.trans H; rw [hy157]; with_reducible exact H2_) | (have H2_ := (Option.bind_some _ _).symm.trans H; with_reducible exact H2_) | with_reducible exact H | (rw [hy157]; exact H) | exact H
                have Ny157 := Aside0.mk hy157; clear hy157; have H' := Aside0.mk H; clear H; obtain ⟨Ao31, co31, eo31⟩ := Kd.R_slice HO_5.out; subst eo31; have p154 : 0 ≤ (x8_2 : Int) := sq_dec; have q154 : x8_2 < (t147.length : Int) := sq_dec; obtain ⟨ad154, e154, hx154_0⟩ := Kd.at_int (Kd.R_reads' HO_5.out).2.2 x8_2 p154 q154; cases e154; replace p154 := eq_true p154; replace q154 := eq_true q154; obtain ⟨Ao32, co32, eo32⟩ := Kd.R_slice HO_4.out; subst eo32; have p155 : 0 ≤ ((rd t147 x8_2) : Int) := sq_dec; have q155 : (rd t147 x8_2) < (t144.length : Int) := sq_dec; obtain ⟨ad155, e155, hx155_0⟩ := Kd.at_int (Kd.R_reads' HO_4.out).2.2 (rd t147 x8_2) p155 q155; cases e155; replace p155 := eq_true p155; replace q155 := eq_true q155; have p156 : 0 ≤ (x8_2 : Int) := sq_dec; have q156 : x8_2 < (t147.length : Int) := sq_dec; obtain ⟨ad156, e156, hx156_0⟩ := Kd.at_int (Kd.R_reads' HO_5.out).2.2 x8_2 p156 q156; obtain rfl : ad154 = ad156 := (by injection e156); replace p156 := eq_true p156; replace q156 := eq_true q156
                go_wp2_with (first | ((with_reducible refine gate_builtin (b := .append) (xs := #[.tmp 48, .tmp 53]) rfl ?_); at_builtin; refine Kd.R_append (Kd.int .i64) (w0 := w) w.heap.size rfl (.tmp 48) (.tmp 53) 39 3 (.int .i64 0) 8 rfl Try.underlying39 info3 rfl (by decide) (by omega) u7 x7_2 (rd t147 x8_2) [.int .i64 (rd t147 x8_2)] (fun k_ => some k_ ≠ (.slice (some ad155) t144.length co32 : Value).ownBlock ∧ some k_ ≠ (.slice (some ad154) t147.length co31 : Value).ownBlock) (fun _ => False) rfl rfl ?aP (fun _ hk => hk.elim) ?aF ?aO ?aB ?aS ?aL ?_; (case aP => exact rfl); (case aB => exact (sq_below1 HB.out GE139.out)); (case aF => exact (fun k_ hk => ⟨Kd.fresh' (Kd.R_lt (sq_row HO_4.out)) k_ hk, Kd.fresh' (Kd.R_lt (sq_row HO_5.out)) k_ hk⟩)); (case aO => exact (sq_row HO_7.out)); (case aS => exact (below_size (sq_below1 HB.out GE139.out))); (case aL => have := LMc30.out; omega); intro v158 w33 ho hb hg hat; rw [← Ny157.out] at ho; have n0_ := Aside0.mk (Kd.S_after (ok := (fun k_ => some k_ ≠ (.slice (some ad155) t144.length co32 : Value).ownBlock ∧ some k_ ≠ (.slice (some ad154) t147.length co31 : Value).ownBlock)) (by (with_reducible repeat (first | apply Kd.S_alloc | apply Kd.S_drewN | apply Kd.S_drew)); exact Kd.S_mono HO_3.out (fun _ hk => ⟨⟨hk.1, hk.2.1⟩, hk.2.2⟩)) hg hat); have n1_ := Aside0.mk (Kd.R_after (ok := (fun k_ => some k_ ≠ (.slice (some ad154) t147.length co31 : Value).ownBlock)) (sq_row HO_4.out) hg hat); have n2_ := Aside0.mk (Kd.R_after (ok := (fun k_ => some k_ ≠ (.slice (some ad155) t144.length co32 : Value).ownBlock)) (sq_row HO_5.out) hg hat); have n3_ := Aside0.mk (blk_grown (g := gb139) (o := .cells #[.int .i64 a0_0, .slice A0_1 l0_1.length c0_1] 30 (0, 0)) (sq_blk BK139.out) hg (Kd.R_ne HO_7.out BK139.out (by decide))); have n4_ := Aside0.mk (hb); have n5_ := Aside0.mk (ho); clear HO_3; clear HO_4; clear HO_5; clear BK139; clear HB; clear HO_7; have HO_3 := n0_; have HO_4 := n1_; have HO_5 := n2_; have BK139 := n3_; have HB := n4_; have HO159 := n5_; clear n0_ n1_ n2_ n3_ n4_ n5_; clear ho hb hg hat))
                go_roundg kj18
                case measure => have := HK1.out; have := HK2.out; have := HJ18.out; omega
                case rel => exact ⟨(y157), (wrap64 (x8_2 + 1)), (by first | rfl | (simp; done) | (simp [*]; done)), H', ⟨by have := HK1.out; have := HK2.out; have := HJ18.out; omega⟩, ⟨by (with_reducible repeat (first | apply Kd.S_alloc | apply Kd.S_drewN | apply Kd.S_drew)); exact Kd.S_mono HO_3.out (fun _ hk => ⟨hk.1.1, ⟨hk.1.2, hk.2⟩⟩)⟩, ⟨by (with_reducible repeat (first | apply Kd.R_alloc | apply Kd.R_drewN | apply Kd.R_drew)); exact HO_4.out⟩, ⟨by (with_reducible repeat (first | apply Kd.R_alloc | apply Kd.R_drewN | apply Kd.R_drew)); exact HO_5.out⟩, ⟨by (with_reducible repeat (first | apply Kd.R_alloc | apply Kd.R_drewN | apply Kd.R_drew)); exact HO159.out⟩, bk_ BK139, ⟨sq_below1 HB.out GE139.out⟩⟩
               ·
                rw [if_neg c30] at H; exact absurd H (by simp)
              ·
               rw [if_neg c29] at H; have c29b0 : decide (x6_1 ≤ (rd t144 (rd t147 x8_2))) = false := decide_eq_false c29; clear c29; have H' := Aside0.mk H; clear H; obtain ⟨Ao34, co34, eo34⟩ := Kd.R_slice HO_5.out; subst eo34; have p154 : 0 ≤ (x8_2 : Int) := sq_dec; have q154 : x8_2 < (t147.length : Int) := sq_dec; obtain ⟨ad154, e154, hx154_0⟩ := Kd.at_int (Kd.R_reads' HO_5.out).2.2 x8_2 p154 q154; cases e154; replace p154 := eq_true p154; replace q154 := eq_true q154; obtain ⟨Ao35, co35, eo35⟩ := Kd.R_slice HO_4.out; subst eo35; have p155 : 0 ≤ ((rd t147 x8_2) : Int) := sq_dec; have q155 : (rd t147 x8_2) < (t144.length : Int) := sq_dec; obtain ⟨ad155, e155, hx155_0⟩ := Kd.at_int (Kd.R_reads' HO_4.out).2.2 (rd t147 x8_2) p155 q155; cases e155; replace p155 := eq_true p155; replace q155 := eq_true q155
               go_wp2
               go_roundg kj18
               case measure => have := HK1.out; have := HK2.out; have := HJ18.out; omega
               case rel => exact ⟨(x7_2), (wrap64 (x8_2 + 1)), (by first | rfl | (simp; done) | (simp [*]; done)), H', ⟨by have := HK1.out; have := HK2.out; have := HJ18.out; omega⟩, ⟨by (with_reducible repeat (first | apply Kd.S_alloc | apply Kd.S_drewN | apply Kd.S_drew)); exact HO_3.out⟩, ⟨by (with_reducible repeat (first | apply Kd.R_alloc | apply Kd.R_drewN | apply Kd.R_drew)); exact HO_4.out⟩, ⟨by (with_reducible repeat (first | apply Kd.R_alloc | apply Kd.R_drewN | apply Kd.R_drew)); exact HO_5.out⟩, ⟨by (with_reducible repeat (first | apply Kd.R_alloc | apply Kd.R_drewN | apply Kd.R_drew)); exact HO_7.out⟩, bk_ BK139, ⟨sq_below1 HB.out GE139.out⟩⟩
             ·
              rw [if_neg c28] at H; exact absurd H (by simp)
            ·
             rw [if_neg c27] at H; exact absurd H (by simp)
           ·
            rw [if_neg c26] at H; exact absurd H (by simp)
          ·
           rw [if_neg c25] at H; exact absurd H (by simp)
         ·
          replace c24 := Bool.eq_false_iff.mpr c24; subst c24; have H1 := ifn_ H
          clear H; have H := H1; clear H1
          by_cases c36 : x3_1.length < 5864062014805
          ·
           rw [if_pos c36] at H; have LMc36 := Aside0.mk c36; clear c36; obtain ⟨y160, hy160⟩ : ∃ y_ : List (List Int), y_ = (x3_1 ++ [x7_2]) := ⟨_, rfl⟩; replace H : (spec_NestOf.l0 kj18 y160 t144 t147 (wrap64 (x6_1 + 1)) a0_0 l0_1) = some r := by first | (rw [hy160]; with_reducible exact H) | (have H2_ := (Option.bind_some _ _).symm.trans H; rw [hy160]; with_reducible exact H2_) | (have H2_ := (Option.bind_some _ _).symm.trans H; with_reducible exact H2_) | with_reducible exact H | (rw [hy160]; exact H) | exact H
           have Ny160 := Aside0.mk hy160; clear hy160; have H' := Aside0.mk H; clear H; obtain ⟨Ao38, co38, eo38⟩ := Kd.R_slice HO_7.out; subst eo38
           go_wp2_with (first | ((with_reducible refine gate_builtin (b := .append) (xs := #[.tmp 55, .tmp 57]) rfl ?_); at_builtin; refine Kd.S_append (Kd.slice 3 (Kd.int .i64)) (w0 := w) w.heap.size rfl (.tmp 55) (.tmp 57) 26 39 (.slice none 0 0) 24 rfl Try.underlying26 info39 rfl (by decide) (by omega) u3 x3_1 x7_2 [.slice Ao38 x7_2.length co38] (fun k_ => some k_ ≠ (v145 : Value).ownBlock ∧ some k_ ≠ (v148 : Value).ownBlock) (fun k_ => some k_ = (.slice Ao38 x7_2.length co38 : Value).ownBlock) rfl rfl ?aP (fun k_ hk_ => ((Kd.R_mono (ok' := fun k_ => ((fun k_ => some k_ ≠ (v145 : Value).ownBlock ∧ some k_ ≠ (v148 : Value).ownBlock)) k_ ∧ some k_ ≠ (u3 : Value).ownBlock) (Kd.R_apart' (HO_7.out) (Kd.S_typed HO_3.out) (by decide)) (fun k_ hk => ⟨⟨hk.1.1, hk.1.2⟩, hk.2⟩))).1 k_ hk_.symm) ?aF ?aO ?aB ?aS ?aL ?_; (case aP => exact Kd.M_row (Kd.R_mono (Kd.R_tight rfl (Kd.R_mono (ok' := fun k_ => ((fun k_ => some k_ ≠ (v145 : Value).ownBlock ∧ some k_ ≠ (v148 : Value).ownBlock)) k_ ∧ some k_ ≠ (u3 : Value).ownBlock) (Kd.R_apart' (HO_7.out) (Kd.S_typed HO_3.out) (by decide)) (fun k_ hk => ⟨⟨hk.1.1, hk.1.2⟩, hk.2⟩))) (fun _ h_ => h_))); (case aB => exact (sq_below1 HB.out GE139.out)); (case aF => exact (fun k_ hk => ⟨Kd.fresh' (Kd.R_lt (sq_row HO_4.out)) k_ hk, Kd.fresh' (Kd.R_lt (sq_row HO_5.out)) k_ hk⟩)); (case aO => exact (by (with_reducible repeat (first | apply Kd.S_alloc | apply Kd.S_drewN | apply Kd.S_drew)); exact Kd.S_mono HO_3.out (fun k_ hk => ⟨⟨hk.1, hk.2.1⟩, fun e_ => hk.2.2 e_⟩))); (case aS => exact (below_size (sq_below1 HB.out GE139.out))); (case aL => have := LMc36.out; omega); intro v161 w37 ho hb hg hat; rw [← Ny160.out] at ho; have n0_ := Aside0.mk (Kd.R_over' (sq_row HO_4.out) (Kd.S_typed (by (with_reducible repeat (first | apply Kd.S_alloc | apply Kd.S_drewN | apply Kd.S_drew)); exact HO_3.out)) (by decide) hg); have n1_ := Aside0.mk (Kd.R_over' (sq_row HO_5.out) (Kd.S_typed (by (with_reducible repeat (first | apply Kd.S_alloc | apply Kd.S_drewN | apply Kd.S_drew)); exact HO_3.out)) (by decide) hg); have n2_ := Aside0.mk (blk_grown (g := gb139) (o := .cells #[.int .i64 a0_0, .slice A0_1 l0_1.length c0_1] 30 (0, 0)) (sq_blk BK139.out) hg (Kd.S_ne HO_3.out BK139.out (by decide))); have n3_ := Aside0.mk (hb); have n4_ := Aside0.mk (ho); clear HO_4; clear HO_5; clear BK139; clear HB; clear HO_3; clear HO_7; have HO_4 := n0_; have HO_5 := n1_; have BK139 := n2_; have HB := n3_; have HO162 := n4_; clear n0_ n1_ n2_ n3_ n4_; clear ho hb hg hat))
           go_roundg kj18
           case measure => have := HK1.out; have := HK2.out; have := HJ18.out; omega
           case rel => exact ⟨(y160), (wrap64 (x6_1 + 1)), (by first | rfl | (simp; done) | (simp [*]; done)), H', ⟨by have := HK1.out; have := HK2.out; have := HJ18.out; omega⟩, ⟨by (with_reducible repeat (first | apply Kd.S_alloc | apply Kd.S_drewN | apply Kd.S_drew)); exact HO162.out⟩, ⟨by (with_reducible repeat (first | apply Kd.R_alloc | apply Kd.R_drewN | apply Kd.R_drew)); exact Kd.R_mono HO_4.out (fun _ hk => hk.1)⟩, ⟨by (with_reducible repeat (first | apply Kd.R_alloc | apply Kd.R_drewN | apply Kd.R_drew)); exact Kd.R_mono HO_5.out (fun _ hk => hk.1)⟩, bk_ BK139, ⟨sq_below1 HB.out GE139.out⟩⟩
          ·
           rw [if_neg c36] at H; exact absurd H (by simp)
    ·
     rw [if_neg c15] at H; have c15b0 : decide (x6_1 < a0_0) = false := decide_eq_false c15; clear c15; obtain rfl := Option.some.inj H; have hcz39_0 := cl_ (v := .int .i64 a0_0) BK139 0; have hcz39_1 := cl_ (v := .slice A0_1 l0_1.length c0_1) BK139 1; have hfz39_0 := blk_frozen BK139.out 0; have hfz39_1 := blk_frozen BK139.out 1
     go_wp2
     go_ret
     exact ⟨_, by first | rfl | (simp [errW_none, errW_some] <;> rfl) | (simp [*, errW_none, errW_some] <;> rfl), by (with_reducible repeat (first | apply Kd.S_alloc | apply Kd.S_drewN | apply Kd.S_drew)); exact Kd.S_mono HO_3.out (fun _ hk => trivial), sq_below1 HB.out GE139.out⟩
 ·
  replace c3 := Bool.eq_false_iff.mpr c3; subst c3; have H1 := ifn_ H
  clear H; have H := H1; clear H1; obtain rfl := Option.some.inj H
  go_enter Try.func5, Try.ntmps5
  go_wp2_with (first | ((with_reducible refine gate_dst (N := 1) rfl ?_); refine box_y 1 #[.int .i64 a0_0, .slice A0_1 l0_1.length c0_1] 30 (h := ?_); intro gb139 hg w40 hbox hb; have n0_ := Aside0.mk (below_step (sq_below HB.out) hb); have n1_ := Aside0.mk (hbox); have n2_ := ge_ hg (below_size (sq_below HB.out)); have n3_ := ge_ hg (below_size (sq_below HB.out)); clear HB; have HB := n0_; have BK139 := n1_; have GW139 := n2_; have GE139 := n3_; clear n0_ n1_ n2_ n3_; clear hb hbox hg) | ((with_reducible refine gate_dst (N := 9) rfl ?_); refine Kd.S_lit (Kd.slice 3 (Kd.int .i64)) _ 39 ?hg (N := 9) ?hd (xs := ([] : List (List Int))) (inner := []) (ok := fun _ => True) (okp := fun _ => True) ?hr ?hp (fun _ hk => hk) trivial (Below.refl _ _) (Nat.le_refl _) (by simp) ?_; (case hd => rfl); (case hg => rfl); (case hr => first | (go_simp; done) | (go_simp; rfl)); (case hp => exact (Reps.none _ _)); intro v141 w41 ho42 hb hg_ hnew_; clear hg_ hnew_; (first | rw [← Ny140.out] at ho42 | (simp only [Int.reduceToNat] at ho42; rw [← Ny140.out] at ho42)); have n0_ := Aside0.mk (Kd.S_lower ho42 (below_size (sq_below1 HB.out GE139.out))); have n1_ := Aside0.mk (blk_below (sq_blk BK139.out) hb); have n2_ := Aside0.mk (below_step (sq_below1 HB.out GE139.out) hb); clear BK139; clear HB; have HO142 := n0_; have BK139 := n1_; have HB := n2_; clear n0_ n1_ n2_; clear hb ho42; have hcz43_0 := cl_ (v := .int .i64 a0_0) BK139 0; have hcz43_1 := cl_ (v := .slice A0_1 l0_1.length c0_1) BK139 1; have hfz43_0 := blk_frozen BK139.out 0; have hfz43_1 := blk_frozen BK139.out 1) | ((with_reducible refine gate_callee (f := 14) rfl ?_); refine gl_ 11 Try.func14 #[.agg #[.int .i64 a0_0, .slice A0_1 l0_1.length c0_1]] (h := ?_); (with_reducible refine (spec_GraphOk.calls k a0_0 _ _ l0_1 false _ ?side1 ?side2 A2.out).mono ?_); (case side1 => exact sq_c (Kd.C_below HR0_1.out HB.out)); (case side2 => exact HC0_1.out); rintro e w44 ⟨rfl, hb⟩; refine ⟨_, rfl, ?_⟩; replace HO142 := Aside0.mk (Kd.S_below (by (with_reducible repeat (first | apply Kd.S_alloc | apply Kd.S_drewN | apply Kd.S_drew)); exact HO142.out) hb); replace HB := hb_ HB hb; (try clear hb)))
  go_ret
  exact ⟨_, by first | rfl | (simp [errW_none, errW_some] <;> rfl) | (simp [*, errW_none, errW_some] <;> rfl), by (with_reducible repeat (first | apply Kd.S_alloc | apply Kd.S_drewN | apply Kd.S_drew)); exact HO142.out, sq_below HB.out⟩

end Go.Proofs.Ytmdebfbkehnocaa.Q
