/- Functions of the translation as Lean functions, each with a proof that a call answers so; out of the seat, by this claim's own program prt.py. -/
import Derived.Test.YtmdebfbkehnocaaWRepsOne
import Derived.Test.YtmdebfbkehnocaaQx0
import Derived.Test.YtmdebfbkehnocaaQx3
import Derived.Test.YtmdebfbkehnocaaQx4
import Derived.Test.YtmdebfbkehnocaaQStep
namespace Go.Proofs.Ytmdebfbkehnocaa.Q
open Go.RowKit Go.Proofs.YtmdebfbkehnocaaW.PrintWords Go.Proofs.YtmdebfbkehnocaaW.PrintLast Go.Proofs.YtmdebfbkehnocaaW.PrintMore
attribute [local go_sem] max2_int min2_int max_two min_two max_three min_three max_four min_four   -- for this text's walks alone
set_option linter.unusedVariables false
set_option linter.unusedSimpArgs false

/-! ### spec_HeadsOf: function 16 -/
def spec_HeadsOf.l0 : Nat → List Int → List Int → Int → Int → List (S58) → Option (List Int)
 | 0, _, _, _, _, _ => none
 | k + 1, x3, x4, x5, x128000, x128001 => if x5 < x128000 then (if 0 ≤ x5 then (if x5 < (x4.length : Int) then (if (rd x4 x5) ≥ 0 then (if x3.length < 17592186044416 then (spec_HeadsOf.l0 k (x3 ++ [x5]) x4 (wrap64 (x5 + 1)) x128000 x128001) else (none)) else (spec_HeadsOf.l0 k x3 x4 (wrap64 (x5 + 1)) x128000 x128001)) else (none)) else (none)) else (some x3)
def spec_HeadsOf.f (k : Nat) (a0_0 : Int) (l0_1 : List (S58)) : Option (List Int) := (some (([] : List Int) : List Int)).bind fun y128 => ((spec_GraphOk.f k a0_0 l0_1).bind fun t131 => (if t131 = true then ((spec_l04Lasts.f k a0_0 l0_1).bind fun t132 => (spec_HeadsOf.l0 k y128 t132 0 a0_0 l0_1)) else (some y128)))
theorem spec_HeadsOf.mono_l : ∀ k, (∀ y0 y1 y2 y3 y4, LeO (spec_HeadsOf.l0 k y0 y1 y2 y3 y4) (spec_HeadsOf.l0 (k + 1) y0 y1 y2 y3 y4))
 | 0 => fun _ _ _ _ _ r h => by simp [spec_HeadsOf.l0] at h
 | k + 1 => by
  have ih0 := spec_HeadsOf.mono_l k
  ·
   intro y0 y1 y2 y3 y4; unfold spec_HeadsOf.l0
   repeat' first
   | (with_reducible exact ih0 _ _ _ _ _)
   | (with_reducible exact spec_GraphOk.mono _ _ _)
   | (with_reducible exact spec_l04Lasts.mono _ _ _)
   | (with_reducible exact LeO.refl _)
   | (with_reducible exact LeO.none _)
   | (with_reducible refine LeO.ite ?_ ?_)
   | (with_reducible refine LeO.bind ?_ (fun _ => ?_))
   | exact ih0 _ _ _ _ _
   | exact spec_GraphOk.mono _ _ _
   | exact spec_l04Lasts.mono _ _ _
   | exact LeO.none _
   | refine LeO.ite ?_ ?_
   | refine LeO.bind ?_ (fun _ => ?_)
theorem spec_HeadsOf.mono : ∀ a0 a1 k, LeO (spec_HeadsOf.f k a0 a1) (spec_HeadsOf.f (k + 1) a0 a1) := by
 intro a0 a1 k; have ih0 := spec_HeadsOf.mono_l k; unfold spec_HeadsOf.f
 repeat' first
   | (with_reducible exact ih0 _ _ _ _ _)
   | (with_reducible exact spec_GraphOk.mono _ _ _)
   | (with_reducible exact spec_l04Lasts.mono _ _ _)
   | (with_reducible exact LeO.refl _)
   | (with_reducible exact LeO.none _)
   | (with_reducible refine LeO.ite ?_ ?_)
   | (with_reducible refine LeO.bind ?_ (fun _ => ?_))
   | exact ih0 _ _ _ _ _
   | exact spec_GraphOk.mono _ _ _
   | exact spec_l04Lasts.mono _ _ _
   | exact LeO.none _
   | refine LeO.ite ?_ ?_
   | refine LeO.bind ?_ (fun _ => ?_)
set_option maxHeartbeats 8000000 in
set_option maxRecDepth 100000 in
theorem spec_HeadsOf.calls (k : Nat) (a0_0 : Int) (A0_1 : Option Addr) (c0_1 : Nat) (l0_1 : List (S58)) (r : List Int) (w : World) (hr0_1 : Kd.C k58 w A0_1 l0_1.length l0_1) (hc0_1 : l0_1.length ≤ c0_1) (h : spec_HeadsOf.f k a0_0 l0_1 = some r) :
  Calls Try.prog 16 #[.agg #[.int .i64 a0_0, .slice A0_1 l0_1.length c0_1]] w fun e w' => ∃ v0_ : Value, e = .returned (v0_) ∧ Kd.R (Kd.int .i64) 3 w' w.heap.size (fun _ => True) v0_ r ∧ Below w.heap.size w w' := by
 have hu30 := Try.underlying30; have HR0_1 := Aside0.mk hr0_1; have HC0_1 := Aside0.mk hc0_1; clear hr0_1 hc0_1; have HB := Aside0.mk (Below.refl w.heap.size w); have H : ((some (([] : List Int) : List Int)).bind fun y128 => ((spec_GraphOk.f k a0_0 l0_1).bind fun t131 => (if t131 = true then ((spec_l04Lasts.f k a0_0 l0_1).bind fun t132 => (spec_HeadsOf.l0 k y128 t132 0 a0_0 l0_1)) else (some y128)))) = some r := h; clear h; obtain ⟨y128, hy128⟩ : ∃ y_ : List Int, y_ = (([] : List Int)) := ⟨_, rfl⟩; replace H : ((spec_GraphOk.f k a0_0 l0_1).bind fun t131 => (if t131 = true then ((spec_l04Lasts.f k a0_0 l0_1).bind fun t132 => (spec_HeadsOf.l0 k y128 t132 0 a0_0 l0_1)) else (some y128))) = some r := by first | (rw [hy128]; with_reducible exact H) | (have H2_ := (Option.bind_some _ _).symm.trans H; rw [hy128]; with_reducible exact H2_) | (have H2_ := (Option.bind_some _ _).symm.trans H; with_reducible exact H2_) | with_reducible exact H | (rw [hy128]; exact H) | exact H
 have Ny128 := Aside0.mk hy128; clear hy128; replace H := Option.bind_eq_some_iff.mp H; obtain ⟨t131, A20, H⟩ := H; (try dsimp only at H); have A2 := Aside0.mk A20; clear A20
 by_cases c3 : t131 = true
 ·
  subst c3; have H1 := ifp_ H
  clear H; have H := H1; clear H1; replace H := Option.bind_eq_some_iff.mp H; obtain ⟨t132, A40, H⟩ := H; replace H : (spec_HeadsOf.l0 k y128 t132 0 a0_0 l0_1) = some r := H; have A4 := Aside0.mk A40; clear A40; have H' := Aside0.mk H; clear H
  go_enter Try.func16, Try.ntmps16
  go_wp2_with (first | ((with_reducible refine gate_dst (N := 1) rfl ?_); refine box_y 1 #[.int .i64 a0_0, .slice A0_1 l0_1.length c0_1] 30 (h := ?_); intro gb127 hg w5 hbox hb; have n0_ := Aside0.mk (below_step (sq_below HB.out) hb); have n1_ := Aside0.mk (hbox); have n2_ := ge_ hg (below_size (sq_below HB.out)); have n3_ := ge_ hg (below_size (sq_below HB.out)); clear HB; have HB := n0_; have BK127 := n1_; have GW127 := n2_; have GE127 := n3_; clear n0_ n1_ n2_ n3_; clear hb hbox hg) | ((with_reducible refine gate_dst (N := 6) rfl ?_); refine Kd.R_lit (Kd.int .i64) _ 3 ?hg (N := 6) ?hd (xs := ([] : List Int)) (inner := []) (ok := fun _ => True) (okp := fun _ => True) ?hr ?hp (fun _ hk => hk) trivial (Below.refl _ _) (Nat.le_refl _) (by simp) ?_; (case hd => rfl); (case hg => rfl); (case hr => first | (go_simp; done) | (go_simp; rfl)); (case hp => exact (Reps.none _ _)); intro v129 w6 ho7 hb hg_ hnew_; clear hg_ hnew_; (first | rw [← Ny128.out] at ho7 | (simp only [Int.reduceToNat] at ho7; rw [← Ny128.out] at ho7)); have n0_ := Aside0.mk (Kd.R_lower ho7 (below_size (sq_below1 HB.out GE127.out))); have n1_ := Aside0.mk (blk_below (sq_blk BK127.out) hb); have n2_ := Aside0.mk (below_step (sq_below1 HB.out GE127.out) hb); clear BK127; clear HB; have HO130 := n0_; have BK127 := n1_; have HB := n2_; clear n0_ n1_ n2_; clear hb ho7; have hcz8_0 := cl_ (v := .int .i64 a0_0) BK127 0; have hcz8_1 := cl_ (v := .slice A0_1 l0_1.length c0_1) BK127 1; have hfz8_0 := blk_frozen BK127.out 0; have hfz8_1 := blk_frozen BK127.out 1) | ((with_reducible refine gate_callee (f := 14) rfl ?_); refine gl_ 8 Try.func14 #[.agg #[.int .i64 a0_0, .slice A0_1 l0_1.length c0_1]] (h := ?_); (with_reducible refine (spec_GraphOk.calls k a0_0 _ _ l0_1 true _ ?side1 ?side2 A2.out).mono ?_); (case side1 => exact sq_c (Kd.C_below HR0_1.out HB.out)); (case side2 => exact HC0_1.out); rintro e w9 ⟨rfl, hb⟩; refine ⟨_, rfl, ?_⟩; replace HO130 := Aside0.mk (Kd.R_below (sq_row HO130.out) hb); replace BK127 := bb_ BK127 hb; replace HB := hb1_ HB hb GE127; (try clear hb); have hcz10_0 := cl_ (v := .int .i64 a0_0) BK127 0; have hcz10_1 := cl_ (v := .slice A0_1 l0_1.length c0_1) BK127 1; have hfz10_0 := blk_frozen BK127.out 0; have hfz10_1 := blk_frozen BK127.out 1) | ((with_reducible refine gate_callee (f := 15) rfl ?_); refine gl_ 12 Try.func15 #[.agg #[.int .i64 a0_0, .slice A0_1 l0_1.length c0_1]] (h := ?_); (with_reducible refine (spec_l04Lasts.calls k a0_0 _ _ l0_1 t132 _ ?side1 ?side2 A4.out).mono ?_); (case side1 => exact sq_c (Kd.C_below HR0_1.out HB.out)); (case side2 => exact HC0_1.out); rintro e w11 ⟨v133, rfl, ho0, hb⟩; refine ⟨_, rfl, ?_⟩; have n0_ := Aside0.mk (Kd.R_elder' (sq_row HO130.out) (Kd.R_base ho0) hb); have n1_ := Aside0.mk (Kd.R_lower (Kd.R_new' ho0 (Kd.R_lt (sq_row HO130.out))) (below_size (sq_below1 HB.out GE127.out))); have n2_ := Aside0.mk (blk_below (sq_blk BK127.out) hb); have n3_ := Aside0.mk (below_step (sq_below1 HB.out GE127.out) hb); clear HO130; clear BK127; clear HB; have HO130 := n0_; have HO134 := n1_; have BK127 := n2_; have HB := n3_; clear n0_ n1_ n2_ n3_; (try clear hb); (try clear ho0)))
  go_loopg [3, 5] k (fun kq v3 v5 w' => ∃ (x3_1 : List Int) (x5_1 : Int), v5 = .int .i64 x5_1 ∧ Aside0 (spec_HeadsOf.l0 kq x3_1 t132 x5_1 a0_0 l0_1 = some r) ∧ Aside0 (kq ≤ k) ∧ Aside0 (Kd.R (Kd.int .i64) 3 w' w.heap.size (fun k_ => some k_ ≠ (v133 : Value).ownBlock) v3 x3_1) ∧ Aside0 (Kd.R (Kd.int .i64) 3 w' w.heap.size (fun k_ => some k_ ≠ (v3 : Value).ownBlock) v133 t132) ∧ Aside0 (w'.heap[gb127]? = some (.cells #[.int .i64 a0_0, (.slice A0_1 l0_1.length c0_1)] 30 (0, 0))) ∧ Aside0 (Below w.heap.size w w'))
  case atStart => exact ⟨(y128), (0), (by first | rfl | (simp; done) | (simp [*]; done)), H', ⟨Nat.le_refl _⟩, ⟨by (with_reducible repeat (first | apply Kd.R_alloc | apply Kd.R_drewN | apply Kd.R_drew)); exact Kd.R_mono HO130.out (fun _ hk => hk.2)⟩, ⟨by (with_reducible repeat (first | apply Kd.R_alloc | apply Kd.R_drewN | apply Kd.R_drew)); exact Kd.R_mono HO134.out (fun _ hk => hk.2)⟩, bk_ BK127, ⟨sq_below1 HB.out GE127.out⟩⟩
  case round =>
   clear H'
   try clear c1
   try clear p2
   try clear c3
   try clear hcz10_0
   try clear hcz10_1
   try clear hcz8_0
   try clear hcz8_1
   try clear hfz10_0
   try clear hfz10_1
   try clear hfz8_0
   try clear hfz8_1
   obtain ⟨x3_1, x5_1, rfl, HA, HK1, HO_3, HO_4, BK127, HB⟩ := hrel; cases gk with
   | zero => exact absurd HA.out (by simp [spec_HeadsOf.l0])
   | succ k1 =>
    have H := HA.out; clear HA; simp only [spec_HeadsOf.l0] at H
    by_cases c12 : x5_1 < a0_0
    ·
     rw [if_pos c12] at H; have c12b0 : decide (x5_1 < a0_0) = true := decide_eq_true c12; clear c12
     by_cases c13 : 0 ≤ x5_1
     ·
      rw [if_pos c13] at H; have c13b0 : decide (0 ≤ x5_1) = true := decide_eq_true c13; clear c13
      by_cases c14 : x5_1 < (t132.length : Int)
      ·
       rw [if_pos c14] at H; have c14b0 : decide (x5_1 < (t132.length : Int)) = true := decide_eq_true c14; clear c14
       by_cases c15 : (rd t132 x5_1) ≥ 0
       ·
        rw [if_pos c15] at H; have c15b0 : decide (0 ≤ (rd t132 x5_1)) = true := decide_eq_true c15; clear c15
        by_cases c16 : x3_1.length < 17592186044416
        ·
         rw [if_pos c16] at H; have LMc16 := Aside0.mk c16; clear c16; obtain ⟨y136, hy136⟩ : ∃ y_ : List Int, y_ = (x3_1 ++ [x5_1]) := ⟨_, rfl⟩; replace H : (spec_HeadsOf.l0 k1 y136 t132 (wrap64 (x5_1 + 1)) a0_0 l0_1) = some r := by first | (rw [hy136]; with_reducible exact H) | (have H2_ := (Option.bind_some _ _).symm.trans H; rw [hy136]; with_reducible exact H2_) | (have H2_ := (Option.bind_some _ _).symm.trans H; with_reducible exact H2_) | with_reducible exact H | (rw [hy136]; exact H) | exact H
         have Ny136 := Aside0.mk hy136; clear hy136; have H' := Aside0.mk H; clear H; have hcz17_0 := cl_ (v := .int .i64 a0_0) BK127 0; have hcz17_1 := cl_ (v := .slice A0_1 l0_1.length c0_1) BK127 1; have hfz17_0 := blk_frozen BK127.out 0; have hfz17_1 := blk_frozen BK127.out 1; obtain ⟨Ao18, co18, eo18⟩ := Kd.R_slice HO_4.out; subst eo18; have p135 : 0 ≤ (x5_1 : Int) := sq_dec; have q135 : x5_1 < (t132.length : Int) := sq_dec; obtain ⟨ad135, e135, hx135_0⟩ := Kd.at_int (Kd.R_reads' HO_4.out).2.2 x5_1 p135 q135; cases e135; replace p135 := eq_true p135; replace q135 := eq_true q135
         go_wp2_with (first | ((with_reducible refine gate_builtin (b := .append) (xs := #[.tmp 24, .tmp 26]) rfl ?_); at_builtin; refine Kd.R_append (Kd.int .i64) (w0 := w) w.heap.size rfl (.tmp 24) (.tmp 26) 39 3 (.int .i64 0) 8 rfl Try.underlying39 info3 rfl (by decide) (by omega) u3 x3_1 x5_1 [.int .i64 x5_1] (fun k_ => some k_ ≠ (.slice (some ad135) t132.length co18 : Value).ownBlock) (fun _ => False) rfl rfl ?aP (fun _ hk => hk.elim) ?aF ?aO ?aB ?aS ?aL ?_; (case aP => exact rfl); (case aB => exact (sq_below1 HB.out GE127.out)); (case aF => exact (fun k_ hk => Kd.fresh' (Kd.R_lt (sq_row HO_4.out)) k_ hk)); (case aO => exact (sq_row HO_3.out)); (case aS => exact (below_size (sq_below1 HB.out GE127.out))); (case aL => have := LMc16.out; omega); intro v137 w19 ho hb hg hat; rw [← Ny136.out] at ho; have n0_ := Aside0.mk (Kd.R_after (ok := (fun _ => True)) (by (with_reducible repeat (first | apply Kd.R_alloc | apply Kd.R_drewN | apply Kd.R_drew)); exact Kd.R_mono HO_4.out (fun _ hk => ⟨trivial, hk⟩)) hg hat); have n1_ := Aside0.mk (blk_grown (g := gb127) (o := .cells #[.int .i64 a0_0, .slice A0_1 l0_1.length c0_1] 30 (0, 0)) (sq_blk BK127.out) hg (Kd.R_ne HO_3.out BK127.out (by decide))); have n2_ := Aside0.mk (hb); have n3_ := Aside0.mk (ho); clear HO_4; clear BK127; clear HB; clear HO_3; have HO_4 := n0_; have BK127 := n1_; have HB := n2_; have HO138 := n3_; clear n0_ n1_ n2_ n3_; clear ho hb hg hat))
         go_roundg k1
         case measure => have := HK1.out; omega
         case rel => exact ⟨(y136), (wrap64 (x5_1 + 1)), (by first | rfl | (simp; done) | (simp [*]; done)), H', ⟨by have := HK1.out; omega⟩, ⟨by (with_reducible repeat (first | apply Kd.R_alloc | apply Kd.R_drewN | apply Kd.R_drew)); exact HO138.out⟩, ⟨by (with_reducible repeat (first | apply Kd.R_alloc | apply Kd.R_drewN | apply Kd.R_drew)); exact Kd.R_mono HO_4.out (fun _ hk => hk.2)⟩, bk_ BK127, ⟨sq_below1 HB.out GE127.out⟩⟩
        ·
         rw [if_neg c16] at H; exact absurd H (by simp)
       ·
        rw [if_neg c15] at H; have c15b0 : decide (0 ≤ (rd t132 x5_1)) = false := decide_eq_false c15; clear c15; have H' := Aside0.mk H; clear H; have hcz20_0 := cl_ (v := .int .i64 a0_0) BK127 0; have hcz20_1 := cl_ (v := .slice A0_1 l0_1.length c0_1) BK127 1; have hfz20_0 := blk_frozen BK127.out 0; have hfz20_1 := blk_frozen BK127.out 1; obtain ⟨Ao21, co21, eo21⟩ := Kd.R_slice HO_4.out; subst eo21; have p135 : 0 ≤ (x5_1 : Int) := sq_dec; have q135 : x5_1 < (t132.length : Int) := sq_dec; obtain ⟨ad135, e135, hx135_0⟩ := Kd.at_int (Kd.R_reads' HO_4.out).2.2 x5_1 p135 q135; cases e135; replace p135 := eq_true p135; replace q135 := eq_true q135
        go_wp2
        go_roundg k1
        case measure => have := HK1.out; omega
        case rel => exact ⟨(x3_1), (wrap64 (x5_1 + 1)), (by first | rfl | (simp; done) | (simp [*]; done)), H', ⟨by have := HK1.out; omega⟩, ⟨by (with_reducible repeat (first | apply Kd.R_alloc | apply Kd.R_drewN | apply Kd.R_drew)); exact HO_3.out⟩, ⟨by (with_reducible repeat (first | apply Kd.R_alloc | apply Kd.R_drewN | apply Kd.R_drew)); exact HO_4.out⟩, bk_ BK127, ⟨sq_below1 HB.out GE127.out⟩⟩
      ·
       rw [if_neg c14] at H; exact absurd H (by simp)
     ·
      rw [if_neg c13] at H; exact absurd H (by simp)
    ·
     rw [if_neg c12] at H; have c12b0 : decide (x5_1 < a0_0) = false := decide_eq_false c12; clear c12; obtain rfl := Option.some.inj H; have hcz22_0 := cl_ (v := .int .i64 a0_0) BK127 0; have hcz22_1 := cl_ (v := .slice A0_1 l0_1.length c0_1) BK127 1; have hfz22_0 := blk_frozen BK127.out 0; have hfz22_1 := blk_frozen BK127.out 1
     go_wp2
     go_ret
     exact ⟨_, by first | rfl | (simp [errW_none, errW_some] <;> rfl) | (simp [*, errW_none, errW_some] <;> rfl), by (with_reducible repeat (first | apply Kd.R_alloc | apply Kd.R_drewN | apply Kd.R_drew)); exact Kd.R_mono HO_3.out (fun _ hk => trivial), sq_below1 HB.out GE127.out⟩
 ·
  replace c3 := Bool.eq_false_iff.mpr c3; subst c3; have H1 := ifn_ H
  clear H; have H := H1; clear H1; obtain rfl := Option.some.inj H
  go_enter Try.func16, Try.ntmps16
  go_wp2_with (first | ((with_reducible refine gate_dst (N := 1) rfl ?_); refine box_y 1 #[.int .i64 a0_0, .slice A0_1 l0_1.length c0_1] 30 (h := ?_); intro gb127 hg w23 hbox hb; have n0_ := Aside0.mk (below_step (sq_below HB.out) hb); have n1_ := Aside0.mk (hbox); have n2_ := ge_ hg (below_size (sq_below HB.out)); have n3_ := ge_ hg (below_size (sq_below HB.out)); clear HB; have HB := n0_; have BK127 := n1_; have GW127 := n2_; have GE127 := n3_; clear n0_ n1_ n2_ n3_; clear hb hbox hg) | ((with_reducible refine gate_dst (N := 6) rfl ?_); refine Kd.R_lit (Kd.int .i64) _ 3 ?hg (N := 6) ?hd (xs := ([] : List Int)) (inner := []) (ok := fun _ => True) (okp := fun _ => True) ?hr ?hp (fun _ hk => hk) trivial (Below.refl _ _) (Nat.le_refl _) (by simp) ?_; (case hd => rfl); (case hg => rfl); (case hr => first | (go_simp; done) | (go_simp; rfl)); (case hp => exact (Reps.none _ _)); intro v129 w24 ho25 hb hg_ hnew_; clear hg_ hnew_; (first | rw [← Ny128.out] at ho25 | (simp only [Int.reduceToNat] at ho25; rw [← Ny128.out] at ho25)); have n0_ := Aside0.mk (Kd.R_lower ho25 (below_size (sq_below1 HB.out GE127.out))); have n1_ := Aside0.mk (blk_below (sq_blk BK127.out) hb); have n2_ := Aside0.mk (below_step (sq_below1 HB.out GE127.out) hb); clear BK127; clear HB; have HO130 := n0_; have BK127 := n1_; have HB := n2_; clear n0_ n1_ n2_; clear hb ho25; have hcz26_0 := cl_ (v := .int .i64 a0_0) BK127 0; have hcz26_1 := cl_ (v := .slice A0_1 l0_1.length c0_1) BK127 1; have hfz26_0 := blk_frozen BK127.out 0; have hfz26_1 := blk_frozen BK127.out 1) | ((with_reducible refine gate_callee (f := 14) rfl ?_); refine gl_ 8 Try.func14 #[.agg #[.int .i64 a0_0, .slice A0_1 l0_1.length c0_1]] (h := ?_); (with_reducible refine (spec_GraphOk.calls k a0_0 _ _ l0_1 false _ ?side1 ?side2 A2.out).mono ?_); (case side1 => exact sq_c (Kd.C_below HR0_1.out HB.out)); (case side2 => exact HC0_1.out); rintro e w27 ⟨rfl, hb⟩; refine ⟨_, rfl, ?_⟩; replace HO130 := Aside0.mk (Kd.R_below (sq_row HO130.out) hb); replace HB := hb_ HB hb; (try clear hb)))
  go_ret
  exact ⟨_, by first | rfl | (simp [errW_none, errW_some] <;> rfl) | (simp [*, errW_none, errW_some] <;> rfl), by (with_reducible repeat (first | apply Kd.R_alloc | apply Kd.R_drewN | apply Kd.R_drew)); exact HO130.out, sq_below HB.out⟩

end Go.Proofs.Ytmdebfbkehnocaa.Q
