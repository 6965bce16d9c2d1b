/- Functions of the translation as Lean functions, each with a proof that a call answers so; out of the seat, by this claim's own program prt.py. -/
import Derived.Test.YtmdebfbkehnocaaWRepsOne
import Derived.Test.YtmdebfbkehnocaaQx0
import Derived.Test.YtmdebfbkehnocaaQx8
import Derived.Test.YtmdebfbkehnocaaQx10
import Derived.Test.YtmdebfbkehnocaaQStep
namespace Go.Proofs.Ytmdebfbkehnocaa.Q
open Go.RowKit Go.Proofs.YtmdebfbkehnocaaW.PrintWords Go.Proofs.YtmdebfbkehnocaaW.PrintLast Go.Proofs.YtmdebfbkehnocaaW.PrintMore
attribute [local go_sem] max2_int min2_int max_two min_two max_three min_three max_four min_four   -- for this text's walks alone
set_option linter.unusedVariables false
set_option linter.unusedSimpArgs false

/-! ### impl_NestOf: function 7 -/
mutual
def impl_NestOf.l0 : Nat → List (List Int) → List Int → Int → Int → Option ((List (List Int)))
 | 0, _, _, _, _ => none
 | k + 1, x3, x14, x15, x16 => if x16 < x15 then (if 0 ≤ x16 then (if x16 < (x14.length : Int) then (impl_NestOf.l1 k x3 x16 (rd x14 x16) x16 x14 x15 x16) else (none)) else (none)) else (some x3)
def impl_NestOf.l1 : Nat → List (List Int) → Int → Int → Int → List Int → Int → Int → Option ((List (List Int)))
 | 0, _, _, _, _, _, _, _ => none
 | k + 1, x3, x4, x5, x6, x14, x15, x16 => if x6 ≤ x5 then (if 0 ≤ x6 then (if x6 < (x3.length : Int) then (if (rd_L7 x3 x6).length < 17592186044416 then (impl_NestOf.l1 k (x3.set (x6 : Int).toNat ((rd_L7 x3 x6) ++ [x4])) x4 x5 (wrap64 (x6 + 1)) x14 x15 x16) else (none)) else (none)) else (none)) else (impl_NestOf.l0 k x3 x14 x15 (wrap64 (x16 + 1)))
end
def impl_NestOf.f (k : Nat) (a0_0 : Int) (l0_1 : List (S58)) : Option ((List (List Int))) := (impl_GraphOk.f a0_0 l0_1).bind fun t229 => (if t229 = true then (if 0 ≤ a0_0 then (if (a0_0 : Int).toNat ≤ 11728124029610 then ((impl_Graph_lasts.f k a0_0 l0_1).bind fun t233 => (impl_NestOf.l0 k (List.replicate (a0_0 : Int).toNat []) t233 (t233.length : Int) 0)) else (none)) else (none)) else (some ([] : List (List Int))))
theorem impl_NestOf.mono_l : ∀ k, (∀ y0 y1 y2 y3, LeO (impl_NestOf.l0 k y0 y1 y2 y3) (impl_NestOf.l0 (k + 1) y0 y1 y2 y3)) ∧ (∀ y0 y1 y2 y3 y4 y5 y6, LeO (impl_NestOf.l1 k y0 y1 y2 y3 y4 y5 y6) (impl_NestOf.l1 (k + 1) y0 y1 y2 y3 y4 y5 y6))
 | 0 => ⟨fun _ _ _ _ r h => by simp [impl_NestOf.l0] at h, fun _ _ _ _ _ _ _ r h => by simp [impl_NestOf.l1] at h⟩
 | k + 1 => by
  obtain ⟨ih0, ih1⟩ := impl_NestOf.mono_l k; refine ⟨?_, ?_⟩
  ·
   intro y0 y1 y2 y3; unfold impl_NestOf.l0
   repeat' first
   | (with_reducible exact ih0 _ _ _ _)
   | (with_reducible exact ih1 _ _ _ _ _ _ _)
   | (with_reducible exact impl_Graph_lasts.mono _ _ _)
   | (with_reducible exact LeO.refl _)
   | (with_reducible exact LeO.none _)
   | (with_reducible refine LeO.ite ?_ ?_)
   | (with_reducible refine LeO.bind ?_ (fun _ => ?_))
   | exact ih0 _ _ _ _
   | exact ih1 _ _ _ _ _ _ _
   | exact impl_Graph_lasts.mono _ _ _
   | exact LeO.none _
   | refine LeO.ite ?_ ?_
   | refine LeO.bind ?_ (fun _ => ?_)
  ·
   intro y0 y1 y2 y3 y4 y5 y6; unfold impl_NestOf.l1
   repeat' first
   | (with_reducible exact ih0 _ _ _ _)
   | (with_reducible exact ih1 _ _ _ _ _ _ _)
   | (with_reducible exact impl_Graph_lasts.mono _ _ _)
   | (with_reducible exact LeO.refl _)
   | (with_reducible exact LeO.none _)
   | (with_reducible refine LeO.ite ?_ ?_)
   | (with_reducible refine LeO.bind ?_ (fun _ => ?_))
   | exact ih0 _ _ _ _
   | exact ih1 _ _ _ _ _ _ _
   | exact impl_Graph_lasts.mono _ _ _
   | exact LeO.none _
   | refine LeO.ite ?_ ?_
   | refine LeO.bind ?_ (fun _ => ?_)
theorem impl_NestOf.mono : ∀ a0 a1 k, LeO (impl_NestOf.f k a0 a1) (impl_NestOf.f (k + 1) a0 a1) := by
 intro a0 a1 k; obtain ⟨ih0, ih1⟩ := impl_NestOf.mono_l k; unfold impl_NestOf.f
 repeat' first
   | (with_reducible exact ih0 _ _ _ _)
   | (with_reducible exact ih1 _ _ _ _ _ _ _)
   | (with_reducible exact impl_Graph_lasts.mono _ _ _)
   | (with_reducible exact LeO.refl _)
   | (with_reducible exact LeO.none _)
   | (with_reducible refine LeO.ite ?_ ?_)
   | (with_reducible refine LeO.bind ?_ (fun _ => ?_))
   | exact ih0 _ _ _ _
   | exact ih1 _ _ _ _ _ _ _
   | exact impl_Graph_lasts.mono _ _ _
   | exact LeO.none _
   | refine LeO.ite ?_ ?_
   | refine LeO.bind ?_ (fun _ => ?_)
set_option maxHeartbeats 8000000 in
set_option maxRecDepth 100000 in
theorem impl_NestOf.calls (k : Nat) (a0_0 : Int) (A0_1 : Option Addr) (c0_1 : Nat) (l0_1 : List (S58)) (r : List (List Int)) (w : World) (hr0_1 : Kd.C k58 w A0_1 l0_1.length l0_1) (hc0_1 : l0_1.length ≤ c0_1) (h : impl_NestOf.f k a0_0 l0_1 = some r) :
  Calls Try.prog 7 #[.agg #[.int .i64 a0_0, .slice A0_1 l0_1.length c0_1]] w fun e w' => ∃ v0_ : Value, e = .returned (v0_) ∧ Kd.S (Kd.slice 3 (Kd.int .i64)) 39 w' w.heap.size (fun _ => True) v0_ r ∧ Below w.heap.size w w' := by
 have hu30 := Try.underlying30; have HR0_1 := Aside0.mk hr0_1; have HC0_1 := Aside0.mk hc0_1; clear hr0_1 hc0_1; have HB := Aside0.mk (Below.refl w.heap.size w); have H : ((impl_GraphOk.f a0_0 l0_1).bind fun t229 => (if t229 = true then (if 0 ≤ a0_0 then (if (a0_0 : Int).toNat ≤ 11728124029610 then ((impl_Graph_lasts.f k a0_0 l0_1).bind fun t233 => (impl_NestOf.l0 k (List.replicate (a0_0 : Int).toNat []) t233 (t233.length : Int) 0)) else (none)) else (none)) else (some ([] : List (List Int))))) = some r := h; clear h; replace H := Option.bind_eq_some_iff.mp H; obtain ⟨t229, A20, H⟩ := H; (try dsimp only at H); have A2 := Aside0.mk A20; clear A20
 by_cases c3 : t229 = true
 ·
  subst c3; have H1 := ifp_ H
  clear H; have H := H1; clear H1
  by_cases c4 : 0 ≤ a0_0
  ·
   rw [if_pos c4] at H; have c4b0 := eq_true c4; have c4b1 : decide (0 ≤ a0_0) = true := decide_eq_true c4; clear c4
   by_cases c5 : (a0_0 : Int).toNat ≤ 11728124029610
   ·
    rw [if_pos c5] at H; have c5b0 := eq_true c5; have c5b1 : decide ((a0_0 : Int).toNat ≤ 11728124029610) = true := decide_eq_true c5; clear c5; obtain ⟨y230, hy230⟩ : ∃ y_ : List (List Int), y_ = (List.replicate (a0_0 : Int).toNat []) := ⟨_, rfl⟩; replace H : ((impl_Graph_lasts.f k a0_0 l0_1).bind fun t233 => (impl_NestOf.l0 k y230 t233 (t233.length : Int) 0)) = some r := by first | (rw [hy230]; with_reducible exact H) | (have H2_ := (Option.bind_some _ _).symm.trans H; rw [hy230]; with_reducible exact H2_) | (have H2_ := (Option.bind_some _ _).symm.trans H; with_reducible exact H2_) | with_reducible exact H | (rw [hy230]; exact H) | exact H
    have Ny230 := Aside0.mk hy230; clear hy230; replace H := Option.bind_eq_some_iff.mp H; obtain ⟨t233, A60, H⟩ := H; (try dsimp only at H); have A6 := Aside0.mk A60; clear A60; have H' := Aside0.mk H; clear H
    go_enter Try.func7, Try.ntmps7
    go_wp2_with (first | ((with_reducible refine gate_dst (N := 1) rfl ?_); refine box_y 1 #[.int .i64 a0_0, .slice A0_1 l0_1.length c0_1] 30 (h := ?_); intro gb228 hg w7 hbox hb; have n0_ := Aside0.mk (below_step (sq_below HB.out) hb); have n1_ := Aside0.mk (hbox); have n2_ := ge_ hg (below_size (sq_below HB.out)); have n3_ := ge_ hg (below_size (sq_below HB.out)); clear HB; have HB := n0_; have BK228 := n1_; have GW228 := n2_; have GE228 := n3_; clear n0_ n1_ n2_ n3_; clear hb hbox hg; have hcz8_0 := cl_ (v := .int .i64 a0_0) BK228 0; have hcz8_1 := cl_ (v := .slice A0_1 l0_1.length c0_1) BK228 1; have hfz8_0 := blk_frozen BK228.out 0; have hfz8_1 := blk_frozen BK228.out 1) | ((with_reducible refine gate_callee (f := 18) rfl ?_); refine gl_ 8 Try.func18 #[.agg #[.int .i64 a0_0, .slice A0_1 l0_1.length c0_1]] (h := ?_); (with_reducible refine (impl_GraphOk.calls a0_0 _ _ l0_1 true _ ?side1 ?side2 A2.out).mono ?_); (case side1 => exact sq_c (Kd.C_below HR0_1.out HB.out)); (case side2 => exact HC0_1.out); rintro e w9 ⟨rfl, hb⟩; refine ⟨_, rfl, ?_⟩; replace BK228 := bb_ BK228 hb; replace HB := hb1_ HB hb GE228; (try clear hb); have hcz10_0 := cl_ (v := .int .i64 a0_0) BK228 0; have hcz10_1 := cl_ (v := .slice A0_1 l0_1.length c0_1) BK228 1; have hfz10_0 := blk_frozen BK228.out 0; have hfz10_1 := blk_frozen BK228.out 1) | ((with_reducible refine gate_dst (N := 12) rfl ?_); refine Kd.S_make (Kd.slice 3 (Kd.int .i64)) _ 39 rfl (N := 12) rfl 26 _ _ rfl a0_0 rfl rfl Try.underlying26 (.slice none 0 0) 24 info39 rfl (by decide) (by omega) [] (ok := fun _ => True) (okp := fun _ => True) ⟨_, rfl, Kd.R_nil _ _ _ _ _⟩ (fun _ hk => hk) trivial (sq_dec) (Nat.le_trans (Nat.mul_le_mul_right _ (sq_dec : a0_0.toNat ≤ 11728124029610)) (by omega)) (Below.refl _ _) (Nat.le_refl _) ?_; intro v231 w11 ho12 hb hg_ hnew_; clear hg_ hnew_; (first | rw [← Ny230.out] at ho12 | (simp only [Int.reduceToNat] at ho12; rw [← Ny230.out] at ho12)); have n0_ := Aside0.mk (Kd.S_lower ho12 (below_size (sq_below1 HB.out GE228.out))); have n1_ := Aside0.mk (blk_below (sq_blk BK228.out) hb); have n2_ := Aside0.mk (below_step (sq_below1 HB.out GE228.out) hb); clear BK228; clear HB; have HO232 := n0_; have BK228 := n1_; have HB := n2_; clear n0_ n1_ n2_; clear hb ho12; have hcz13_0 := cl_ (v := .int .i64 a0_0) BK228 0; have hcz13_1 := cl_ (v := .slice A0_1 l0_1.length c0_1) BK228 1; have hfz13_0 := blk_frozen BK228.out 0; have hfz13_1 := blk_frozen BK228.out 1) | ((with_reducible refine gate_callee (f := 19) rfl ?_); refine gl_ 14 Try.func19 #[.agg #[.int .i64 a0_0, .slice A0_1 l0_1.length c0_1]] (h := ?_); (with_reducible refine (impl_Graph_lasts.calls k a0_0 _ _ l0_1 t233 _ ?side1 ?side2 A6.out).mono ?_); (case side1 => exact sq_c (Kd.C_below HR0_1.out HB.out)); (case side2 => exact HC0_1.out); rintro e w14 ⟨v234, rfl, ho0, hb⟩; refine ⟨_, rfl, ?_⟩; have n0_ := Aside0.mk (Kd.S_elder' (by (with_reducible repeat (first | apply Kd.S_alloc | apply Kd.S_drewN | apply Kd.S_drew)); exact HO232.out) (Kd.R_base ho0) hb); have n1_ := Aside0.mk (Kd.R_lower ho0 (below_size (sq_below1 HB.out GE228.out))); have n2_ := Aside0.mk (blk_below (sq_blk BK228.out) hb); have n3_ := Aside0.mk (below_step (sq_below1 HB.out GE228.out) hb); clear HO232; clear BK228; clear HB; have HO232 := n0_; have HO235 := n1_; have BK228 := n2_; have HB := n3_; clear n0_ n1_ n2_ n3_; (try clear hb); (try clear ho0); obtain ⟨Ao15, co15, eo15⟩ := Kd.R_slice HO235.out; subst eo15))
    go_loopg [16] k (fun kq v16 w' => ∃ (x3_1 : List (List Int)) (x16_1 : Int), v16 = .int .i64 x16_1 ∧ Aside0 (impl_NestOf.l0 kq x3_1 t233 (t233.length : Int) x16_1 = some r) ∧ Aside0 (kq ≤ k) ∧ Aside0 (Kd.S (Kd.slice 3 (Kd.int .i64)) 39 w' w.heap.size (fun k_ => some k_ ≠ ((.slice Ao15 t233.length co15) : Value).ownBlock) v231 x3_1) ∧ Aside0 (Kd.R (Kd.int .i64) 3 w' w.heap.size (fun _ => True) (.slice Ao15 t233.length co15) t233) ∧ Aside0 (w'.heap[gb228]? = some (.cells #[.int .i64 a0_0, (.slice A0_1 l0_1.length c0_1)] 30 (0, 0))) ∧ Aside0 (Below w.heap.size w w'))
    case atStart => exact ⟨(y230), (0), (by first | rfl | (simp; done) | (simp [*]; done)), H', ⟨Nat.le_refl _⟩, ⟨by (with_reducible repeat (first | apply Kd.S_alloc | apply Kd.S_drewN | apply Kd.S_drew)); exact Kd.S_mono HO232.out (fun _ hk => hk.2)⟩, ⟨by (with_reducible repeat (first | apply Kd.R_alloc | apply Kd.R_drewN | apply Kd.R_drew)); exact HO235.out⟩, bk_ BK228, ⟨sq_below1 HB.out GE228.out⟩⟩
    case round =>
     clear H'
     try clear c1
     try clear p2
     try clear c3
     try clear c4
     try clear c4b0
     try clear c4b1
     try clear c5
     try clear c5b0
     try clear c5b1
     try clear c7
     try clear hcz10_0
     try clear hcz10_1
     try clear hcz13_0
     try clear hcz13_1
     try clear hcz8_0
     try clear hcz8_1
     try clear hfz10_0
     try clear hfz10_1
     try clear hfz13_0
     try clear hfz13_1
     try clear hfz8_0
     try clear hfz8_1
     obtain ⟨x3_1, x16_1, rfl, HA, HK1, HO_3, HO_14, BK228, HB⟩ := hrel; cases gk with
     | zero => exact absurd HA.out (by simp [impl_NestOf.l0])
     | succ k1 =>
      have H := HA.out; clear HA; simp only [impl_NestOf.l0] at H
      by_cases c16 : x16_1 < (t233.length : Int)
      ·
       rw [if_pos c16] at H; have c16b0 : decide (x16_1 < (t233.length : Int)) = true := decide_eq_true c16; clear c16
       by_cases c17 : 0 ≤ x16_1
       ·
        rw [if_pos c17] at H; have c17b0 : decide (0 ≤ x16_1) = true := decide_eq_true c17; clear c17
        by_cases c18 : x16_1 < (t233.length : Int)
        ·
         rw [if_pos c18] at H; have c18b0 : decide (x16_1 < (t233.length : Int)) = true := decide_eq_true c18; clear c18; have H' := Aside0.mk H; clear H; have p236 : 0 ≤ (x16_1 : Int) := sq_dec; have q236 : x16_1 < (t233.length : Int) := sq_dec; obtain ⟨ad236, e236, hx236_0⟩ := Kd.at_int (Kd.R_reads' HO_14.out).2.2 x16_1 p236 q236; cases e236; replace p236 := eq_true p236; replace q236 := eq_true q236
         go_wp2
         go_loopg [6] k1 (fun kq v6 w' => ∃ (x3_2 : List (List Int)) (x6_2 : Int), v6 = .int .i64 x6_2 ∧ Aside0 (impl_NestOf.l1 kq x3_2 x16_1 (rd t233 x16_1) x6_2 t233 (t233.length : Int) x16_1 = some r) ∧ Aside0 (kq ≤ k1) ∧ Aside0 (Kd.S (Kd.slice 3 (Kd.int .i64)) 39 w' w.heap.size (fun k_ => some k_ ≠ ((.slice (some ad236) t233.length co15) : Value).ownBlock) v231 x3_2) ∧ Aside0 (Kd.R (Kd.int .i64) 3 w' w.heap.size (fun _ => True) (.slice (some ad236) t233.length co15) t233) ∧ Aside0 (w'.heap[gb228]? = some (.cells #[.int .i64 a0_0, (.slice A0_1 l0_1.length c0_1)] 30 (0, 0))) ∧ Aside0 (Below w.heap.size w w'))
         case atStart => exact ⟨(x3_1), (x16_1), (by first | rfl | (simp; done) | (simp [*]; done)), H', ⟨Nat.le_refl _⟩, ⟨by (with_reducible repeat (first | apply Kd.S_alloc | apply Kd.S_drewN | apply Kd.S_drew)); exact HO_3.out⟩, ⟨by (with_reducible repeat (first | apply Kd.R_alloc | apply Kd.R_drewN | apply Kd.R_drew)); exact HO_14.out⟩, bk_ BK228, ⟨sq_below1 HB.out GE228.out⟩⟩
         case round =>
          clear H'
          try clear c1
          try clear p2
          try clear q2
          try clear hx2
          try clear c3
          try clear c4
          try clear c4b0
          try clear c4b1
          try clear c5
          try clear c5b0
          try clear c5b1
          try clear c7
          try clear c16
          try clear c16b0
          try clear c17
          try clear c17b0
          try clear c18
          try clear c18b0
          try clear hcz10_0
          try clear hcz10_1
          try clear hcz13_0
          try clear hcz13_1
          try clear hcz8_0
          try clear hcz8_1
          try clear hfz10_0
          try clear hfz10_1
          try clear hfz13_0
          try clear hfz13_1
          try clear hfz8_0
          try clear hfz8_1
          try clear hx236_0
          try clear p2
          try clear p236
          try clear q236
          obtain ⟨x3_2, x6_2, rfl, HA, HK2, HO_3, HO_14, BK228, HB⟩ := hrel; cases gk with
          | zero => exact absurd HA.out (by simp [impl_NestOf.l1])
          | succ k2 =>
           have H := HA.out; clear HA; simp only [impl_NestOf.l1] at H
           by_cases c19 : x6_2 ≤ (rd t233 x16_1)
           ·
            rw [if_pos c19] at H; have c19b0 : decide (x6_2 ≤ (rd t233 x16_1)) = true := decide_eq_true c19; clear c19
            by_cases c20 : 0 ≤ x6_2
            ·
             rw [if_pos c20] at H; have c20b0 : decide (0 ≤ x6_2) = true := decide_eq_true c20; clear c20
             by_cases c21 : x6_2 < (x3_2.length : Int)
             ·
              rw [if_pos c21] at H; have c21b0 : decide (x6_2 < (x3_2.length : Int)) = true := decide_eq_true c21; clear c21
              by_cases c22 : (rd_L7 x3_2 x6_2).length < 17592186044416
              ·
               rw [if_pos c22] at H; have LMc22 := Aside0.mk c22; clear c22; obtain ⟨y238, hy238⟩ : ∃ y_ : List Int, y_ = ((rd_L7 x3_2 x6_2) ++ [x16_1]) := ⟨_, rfl⟩; replace H : (impl_NestOf.l1 k2 (x3_2.set (x6_2 : Int).toNat y238) x16_1 (rd t233 x16_1) (wrap64 (x6_2 + 1)) t233 (t233.length : Int) x16_1) = some r := by first | (rw [hy238]; with_reducible exact H) | (have H2_ := (Option.bind_some _ _).symm.trans H; rw [hy238]; with_reducible exact H2_) | (have H2_ := (Option.bind_some _ _).symm.trans H; with_reducible exact H2_) | with_reducible exact H | (rw [hy238]; exact H) | exact H
               have Ny238 := Aside0.mk hy238; clear hy238; obtain ⟨y241, hy241⟩ : ∃ y_ : List (List Int), y_ = (x3_2.set (x6_2 : Int).toNat y238) := ⟨_, rfl⟩; replace H : (impl_NestOf.l1 k2 y241 x16_1 (rd t233 x16_1) (wrap64 (x6_2 + 1)) t233 (t233.length : Int) x16_1) = some r := by first | (rw [hy241]; with_reducible exact H) | (have H2_ := (Option.bind_some _ _).symm.trans H; rw [hy241]; with_reducible exact H2_) | (have H2_ := (Option.bind_some _ _).symm.trans H; with_reducible exact H2_) | with_reducible exact H | (rw [hy241]; exact H) | exact H
               have Ny241 := Aside0.mk hy241; clear hy241; have H' := Aside0.mk H; clear H; obtain ⟨Ao24, co24, eo24⟩ := Kd.S_slice HO_3.out; subst eo24; have p237 : 0 ≤ (x6_2 : Int) := sq_dec; have q237 : x6_2 < (x3_2.length : Int) := sq_dec; obtain ⟨ad237, A237_0, c237_0, e237, hx237_0, hl237_0, hi237_0⟩ := at_L7 (Kd.S_reads' HO_3.out).2.2 x6_2 p237 q237; cases e237; obtain ⟨ce237, hce237, hMe237, hcc237⟩ := Kd.S_get HO_3.out [] x6_2 p237 (by first | exact q237 | exact sq_dec | (have e_ := (Kd.S_reads' HO_3.out).1; omega)); obtain ⟨ve237_0, rfl, ge237_0⟩ := (id hMe237); have hv237_0 := hcc237 0 _ rfl; rw [Nat.add_zero, show ((Kd.slice 3 (Kd.int .i64))).sz = 1 from rfl, Nat.mul_one] at hv237_0; replace hv237_0 := Option.some.inj (hv237_0.symm.trans hx237_0); rw [hv237_0] at ge237_0; have HL237_0 := Aside0.mk (show Kd.R (Kd.int .i64) 3 _ _ _ _ (rd_L7 x3_2 x6_2) from ge237_0); clear hv237_0 ge237_0; have HX237_0 := Aside0.mk hx237_0; clear hcc237 hce237; have HR237_0 := Aside0.mk hi237_0; have HC237_0 := Aside0.mk hl237_0; clear hi237_0 hl237_0; replace p237 := eq_true p237; replace q237 := eq_true q237; obtain ⟨go25, co25, eo25, gb25, gl25, cl25, HG25⟩ := Kd.S_form HO_3.out (by have h_ : (x6_2 : Int) < ((x3_2.length : Int) : Int) := sq_dec; have h2_ : 0 ≤ (x6_2 : Int) := (sq_dec); omega)
               (first | cases eo25 | (injection eo25 with ea_ en_ ec_; (first | subst ea_ | (injection ea_ with ea_; subst ea_)); subst ec_; clear en_))
               have GB25 := Aside0.mk gb25; have GG25 := Aside0.mk HG25; clear gb25 gl25 HG25
               (first | simp only [add_plain] at hx237_0 | skip)
               obtain ⟨oki25, ce25, hcl25, hM25, hcc25, _, _, hH25⟩ := Kd.S_elem HO_3.out [] (x6_2 : Int) (sq_dec) (by have h_ : (x6_2 : Int) < ((x3_2.length : Int) : Int) := sq_dec; first | exact h_ | (have e_ := (Kd.S_reads' HO_3.out).1; omega) | simpa using h_); obtain ⟨ve25_0, rfl, ge25_0⟩ := (id hM25); have hv25 := hcc25 0 _ rfl; have hX25 := HX237_0.out
               (try simp only [add_plain] at hX25)
               (try simp only [Nat.add_zero] at hv25)
               (try rw [show ((Kd.slice 3 (Kd.int .i64))).sz = 1 from rfl, Nat.mul_one] at hv25)
               replace hv25 := Option.some.inj (hv25.symm.trans hX25); subst hv25; clear hX25 hcc25 hcl25; have UU25 := Aside0.mk (show Kd.R (Kd.int .i64) 3 _ w.heap.size oki25 (.slice A237_0 (rd_L7 x3_2 x6_2).length c237_0) (rd_L7 x3_2 x6_2) from ge25_0); have HH25 := Aside0.mk hH25; have HN25 := Aside0.mk (Kd.S_reads' HO_3.out).1; clear hH25 ge25_0
               go_wp2_with (first | ((with_reducible refine gate_builtin (b := .append) (xs := #[.tmp 32, .tmp 34]) rfl ?_); at_builtin; refine Kd.R_append (Kd.int .i64) (w0 := w) w.heap.size rfl (.tmp 32) (.tmp 34) 39 3 (.int .i64 0) 8 rfl Try.underlying39 info3 rfl (by decide) (by omega) (.slice A237_0 (rd_L7 x3_2 x6_2).length c237_0) (rd_L7 x3_2 x6_2) x16_1 [.int .i64 x16_1] (fun k_ => oki25 k_ ∨ ((fun k_ => some k_ ≠ (.slice (some ad236) t233.length co15 : Value).ownBlock)) k_ ∧ wr.heap.size ≤ k_) (fun _ => False) rfl rfl ?aP (fun _ hk => hk.elim) ?aF ?aO ?aB ?aS ?aL ?_; (case aP => exact rfl); (case aB => exact (sq_below1 HB.out GE228.out)); (case aF => exact (fun k_ hk => .inr ⟨Kd.fresh' (Kd.R_lt (sq_row HO_14.out)) k_ hk, hk⟩)); (case aO => exact (by (with_reducible repeat (first | apply Kd.R_alloc | apply Kd.R_drewN | apply Kd.R_drew)); exact Kd.R_mono UU25.out (fun _ hk => .inl hk))); (case aS => exact (below_size (sq_below1 HB.out GE228.out))); (case aL => have := LMc22.out; omega); intro v239 w26 ho hb hg hat; rw [← Ny238.out] at ho; have n0_ := Aside0.mk (Kd.R_grown2 (sq_row HO_14.out) rfl hg (fun k_ e_ => (HL237_0.out.1 k_ e_).1)); have n1_ := Aside0.mk (blk_grown (g := gb228) (o := .cells #[.int .i64 a0_0, .slice A0_1 l0_1.length c0_1] 30 (0, 0)) (sq_blk BK228.out) hg (Kd.R_ne HL237_0.out BK228.out (by decide))); have n2_ := Aside0.mk (hb); have n3_ := Aside0.mk (Kd.H_grown (Kd.H_widen (by repeat (first | exact HH25.out | refine Kd.H_alloc ?_ _ | refine Kd.H_drewN ?_ _ | refine Kd.H_drew ?_))) hg (fun k_ e_ => .inl (UU25.out.1 k_ e_))); have n4_ := Aside0.mk (ho); clear HO_14; clear BK228; clear HB; clear HH25; clear HO_3; clear UU25; clear HL237_0; have HO_14 := n0_; have BK228 := n1_; have HB := n2_; have HH25 := n3_; have HO240 := n4_; clear n0_ n1_ n2_ n3_ n4_; clear ho hb hg hat; have p23 : 0 ≤ (x6_2 : Int) := sq_dec; have q23 : (x6_2 : Int) < ((x3_2.length : Int) : Int) := sq_dec; replace p23 := eq_true p23; replace q23 := eq_true q23; obtain ⟨Ao29, co29, eo29⟩ := Kd.R_slice HO240.out; subst eo29; obtain ⟨_, _, hraw27, _, _, hcc27, _⟩ := Kd.H_raw HH25.out (sq_dec) (by have h_ : (x6_2 : Int) < ((x3_2.length : Int) : Int) := sq_dec; first | exact h_ | (have e_ := (HN25.out); omega) | simpa using h_); obtain ⟨_, hfr27⟩ := Kd.H_at HH25.out (sq_dec) (by have h_ : (x6_2 : Int) < ((x3_2.length : Int) : Int) := sq_dec; first | exact h_ | (have e_ := (HN25.out); omega) | simpa using h_); have hx27_0 := hcc27 0 _ rfl; have hf27_0 := hfr27 0; (try simp only [Nat.add_zero] at hx27_0 hf27_0); (try rw [show ((Kd.slice 3 (Kd.int .i64))).sz = 1 from rfl, Nat.mul_one] at hx27_0); (try rw [show ((Kd.slice 3 (Kd.int .i64))).sz = 1 from rfl, Nat.mul_one] at hf27_0); have HP27 := Kd.S_seg0 HH25.out (sq_dec) (by have h_ : (x6_2 : Int) < ((x3_2.length : Int) : Int) := sq_dec; first | exact h_ | (have e_ := (HN25.out); omega) | simpa using h_) (seg := [.slice Ao29 y238.length co29]) (j := 0) (show 1 ≤ 1 from by decide) (x' := y238) (Kd.M_row HO240.out) (fun _ hk => hk); (try simp only [show ((Kd.slice 3 (Kd.int .i64))).sz = 1 from rfl, Nat.mul_one, Nat.add_zero] at HP27); clear hcc27 hfr27) | ((with_reducible refine gate_store (t := 39) (p := 36) rfl ?_); refine store_event (t := 39) (p := 36) (v := ?vo_w28) (w1 := (w26.setCell ⟨go25, (x6_2 : Int).toNat, none⟩ (.slice Ao29 y238.length co29))) ?hg ?ho ?hn ?hr ?_; (case ho => rfl); (case hg => rfl); (case hn => rfl); (case hr => first | (go_simp; done) | (go_simp; rfl)); intro w28 hw; have hg : w26.grownBy w28 (some go25) := (by rw [hw]; exact HP27.2); have hp_ : Kd.S (Kd.slice 3 (Kd.int .i64)) 39 w28 w.heap.size (fun k_ => some k_ ≠ (.slice (some ad236) t233.length co15 : Value).ownBlock) (.slice (some ⟨go25, 0, none⟩) x3_2.length co24) y241 := (by rw [hw, Ny241.out]; exact HP27.1); clear HP27; have n0_ := Aside0.mk (Kd.R_over' (v := (.slice (some ⟨go25, 0, none⟩) x3_2.length co24)) (sq_row HO_14.out) (Kd.R_typed hraw27) (by decide) hg); have n1_ := Aside0.mk (blk_grown (g := gb228) (o := .cells #[.int .i64 a0_0, .slice A0_1 l0_1.length c0_1] 30 (0, 0)) (sq_blk BK228.out) hg (Kd.R_ne hraw27 BK228.out (by decide))); have n2_ := Aside0.mk ((by rw [hw]; exact below_set HB.out GB25.out : Below w.heap.size w w28)); have n3_ := Aside0.mk (hp_); clear HO_14; clear BK228; clear HB; clear HO240; clear HH25; have HO_14 := n0_; have BK228 := n1_; have HB := n2_; have HO_3 := n3_; clear n0_ n1_ n2_ n3_; clear hg hw hp_ hraw27))
               go_roundg k2
               case measure => have := HK1.out; have := HK2.out; omega
               case rel => exact ⟨(y241), (wrap64 (x6_2 + 1)), (by first | rfl | (simp; done) | (simp [*]; done)), H', ⟨by have := HK1.out; have := HK2.out; omega⟩, ⟨by (with_reducible repeat (first | apply Kd.S_alloc | apply Kd.S_drewN | apply Kd.S_drew)); exact HO_3.out⟩, ⟨by (with_reducible repeat (first | apply Kd.R_alloc | apply Kd.R_drewN | apply Kd.R_drew)); exact HO_14.out⟩, bk_ BK228, ⟨sq_below1 HB.out GE228.out⟩⟩
              ·
               rw [if_neg c22] at H; exact absurd H (by simp)
             ·
              rw [if_neg c21] at H; exact absurd H (by simp)
            ·
             rw [if_neg c20] at H; exact absurd H (by simp)
           ·
            rw [if_neg c19] at H; have c19b0 : decide (x6_2 ≤ (rd t233 x16_1)) = false := decide_eq_false c19; clear c19; have H' := Aside0.mk H; clear H
            go_wp2
            go_roundg k2
            case measure => have := HK1.out; have := HK2.out; omega
            case rel => exact ⟨(x3_2), (wrap64 (x16_1 + 1)), (by first | rfl | (simp; done) | (simp [*]; done)), H', ⟨by have := HK1.out; have := HK2.out; omega⟩, ⟨by (with_reducible repeat (first | apply Kd.S_alloc | apply Kd.S_drewN | apply Kd.S_drew)); exact HO_3.out⟩, ⟨by (with_reducible repeat (first | apply Kd.R_alloc | apply Kd.R_drewN | apply Kd.R_drew)); exact HO_14.out⟩, bk_ BK228, ⟨sq_below1 HB.out GE228.out⟩⟩
        ·
         rw [if_neg c18] at H; exact absurd H (by simp)
       ·
        rw [if_neg c17] at H; exact absurd H (by simp)
      ·
       rw [if_neg c16] at H; have c16b0 : decide (x16_1 < (t233.length : Int)) = false := decide_eq_false c16; clear c16; obtain rfl := Option.some.inj H
       go_wp2
       go_ret
       exact ⟨_, by first | rfl | (simp [errW_none, errW_some] <;> rfl) | (simp [*, errW_none, errW_some] <;> rfl), by (with_reducible repeat (first | apply Kd.S_alloc | apply Kd.S_drewN | apply Kd.S_drew)); exact Kd.S_mono HO_3.out (fun _ hk => trivial), sq_below1 HB.out GE228.out⟩
   ·
    rw [if_neg c5] at H; exact absurd H (by simp)
  ·
   rw [if_neg c4] at H; exact absurd H (by simp)
 ·
  replace c3 := Bool.eq_false_iff.mpr c3; subst c3; have H1 := ifn_ H
  clear H; have H := H1; clear H1; obtain rfl := Option.some.inj H
  go_enter Try.func7, Try.ntmps7
  go_wp2_with (first | ((with_reducible refine gate_dst (N := 1) rfl ?_); refine box_y 1 #[.int .i64 a0_0, .slice A0_1 l0_1.length c0_1] 30 (h := ?_); intro gb228 hg w30 hbox hb; have n0_ := Aside0.mk (below_step (sq_below HB.out) hb); have n1_ := Aside0.mk (hbox); have n2_ := ge_ hg (below_size (sq_below HB.out)); have n3_ := ge_ hg (below_size (sq_below HB.out)); clear HB; have HB := n0_; have BK228 := n1_; have GW228 := n2_; have GE228 := n3_; clear n0_ n1_ n2_ n3_; clear hb hbox hg; have hcz31_0 := cl_ (v := .int .i64 a0_0) BK228 0; have hcz31_1 := cl_ (v := .slice A0_1 l0_1.length c0_1) BK228 1; have hfz31_0 := blk_frozen BK228.out 0; have hfz31_1 := blk_frozen BK228.out 1) | ((with_reducible refine gate_callee (f := 18) rfl ?_); refine gl_ 8 Try.func18 #[.agg #[.int .i64 a0_0, .slice A0_1 l0_1.length c0_1]] (h := ?_); (with_reducible refine (impl_GraphOk.calls a0_0 _ _ l0_1 false _ ?side1 ?side2 A2.out).mono ?_); (case side1 => exact sq_c (Kd.C_below HR0_1.out HB.out)); (case side2 => exact HC0_1.out); rintro e w32 ⟨rfl, hb⟩; refine ⟨_, rfl, ?_⟩; replace HB := hb_ HB hb; (try clear hb)))
  go_ret
  exact ⟨_, by first | rfl | (simp [errW_none, errW_some] <;> rfl) | (simp [*, errW_none, errW_some] <;> rfl), by first | exact Kd.S_nil _ _ _ _ _ | exact Kd.N_nil _ _ _ _ _ | exact Kd.V_nil _ _ _ _ _ | exact Kd.Q_nil _ _ _ _ _ | exact Kd.R_nil _ _ _ _ _, sq_below HB.out⟩

end Go.Proofs.Ytmdebfbkehnocaa.Q
