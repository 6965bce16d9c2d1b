/- Functions of the translation as Lean functions, each with a proof that a call answers so; out of the seat, by this claim's own program prt.py. -/
import Derived.Test.YtmibaaicadgchaaDoorWRepsOne
import Derived.Test.YtmibaaicadgchaaDoorQx0
import Derived.Test.YtmibaaicadgchaaDoorQx5
import Derived.Test.YtmibaaicadgchaaDoorQx20
import Derived.Test.YtmibaaicadgchaaDoorQStep
namespace Go.Proofs.YtmibaaicadgchaaDoor.Q
open Go.RowKit Go.Proofs.YtmibaaicadgchaaDoorW.PrintWords Go.Proofs.YtmibaaicadgchaaDoorW.PrintLast Go.Proofs.YtmibaaicadgchaaDoorW.PrintMore
attribute [local go_sem] max2_int min2_int max_two min_two max_three min_three max_four min_four   -- for this text's walks alone
set_option linter.unusedVariables false
set_option linter.unusedSimpArgs false

/-! ### impl_RangeJoin: function 22 -/
def impl_RangeJoin.j0 : Nat → Bool → Int → Int → Int → Int → Option (Int × Int)
 | 0, _, _, _, _, _ => none
 | k + 1, x14, x424000, x424001, x425000, x425001 => if x14 = true then (some (1, 0)) else ((impl_orOther.f x424000 x424001 x425000 x425001).bind fun bt428 => (if bt428.2.2 = true then (some (bt428.1, bt428.2.1)) else (some (mn x424000 x425000, mx x424001 x425001))))
def impl_RangeJoin.f (k : Nat) (a0_0 : Int) (a0_1 : Int) (a1_0 : Int) (a1_1 : Int) : Option (Int × Int) := (impl_RangeOk.f a0_0 a0_1).bind fun t426 => (if t426 = true then ((impl_RangeOk.f a1_0 a1_1).bind fun t427 => (impl_RangeJoin.j0 k (!t427) a0_0 a0_1 a1_0 a1_1)) else (impl_RangeJoin.j0 k true a0_0 a0_1 a1_0 a1_1))
theorem impl_RangeJoin.mono_l : ∀ k, (∀ y0 y1 y2 y3 y4, LeO (impl_RangeJoin.j0 k y0 y1 y2 y3 y4) (impl_RangeJoin.j0 (k + 1) y0 y1 y2 y3 y4))
 | 0 => fun _ _ _ _ _ r h => by simp [impl_RangeJoin.j0] at h
 | k + 1 => by
  have ih0 := impl_RangeJoin.mono_l k
  ·
   intro y0 y1 y2 y3 y4; unfold impl_RangeJoin.j0
   repeat' first
   | (with_reducible exact ih0 _ _ _ _ _)
   | (with_reducible exact LeO.refl _)
   | (with_reducible exact LeO.none _)
   | (with_reducible refine LeO.ite ?_ ?_)
   | (with_reducible refine LeO.bind ?_ (fun _ => ?_))
   | exact ih0 _ _ _ _ _
   | exact LeO.none _
   | refine LeO.ite ?_ ?_
   | refine LeO.bind ?_ (fun _ => ?_)
theorem impl_RangeJoin.mono : ∀ a0 a1 a2 a3 k, LeO (impl_RangeJoin.f k a0 a1 a2 a3) (impl_RangeJoin.f (k + 1) a0 a1 a2 a3) := by
 intro a0 a1 a2 a3 k; have ih0 := impl_RangeJoin.mono_l k; unfold impl_RangeJoin.f
 repeat' first
   | (with_reducible exact ih0 _ _ _ _ _)
   | (with_reducible exact LeO.refl _)
   | (with_reducible exact LeO.none _)
   | (with_reducible refine LeO.ite ?_ ?_)
   | (with_reducible refine LeO.bind ?_ (fun _ => ?_))
   | exact ih0 _ _ _ _ _
   | exact LeO.none _
   | refine LeO.ite ?_ ?_
   | refine LeO.bind ?_ (fun _ => ?_)
set_option maxHeartbeats 8000000 in
set_option maxRecDepth 100000 in
theorem impl_RangeJoin.calls (k : Nat) (a0_0 : Int) (a0_1 : Int) (a1_0 : Int) (a1_1 : Int) (r1 : Int) (r2 : Int) (w : World) (hG0 : GL0 w) (h : impl_RangeJoin.f k a0_0 a0_1 a1_0 a1_1 = some (r1, r2)) :
  Calls Tryd.prog 22 #[.agg #[.int .i64 a0_0, .int .i64 a0_1], .agg #[.int .i64 a1_0, .int .i64 a1_1]] w fun e w' => e = .returned (.agg #[.int .i64 r1, .int .i64 r2]) ∧ Below w.heap.size w w' := by
 have hu25 := Tryd.underlying25; have HB := Aside0.mk (Below.refl w.heap.size w); have HG0 := Aside0.mk hG0; clear hG0; have H : ((impl_RangeOk.f a0_0 a0_1).bind fun t426 => (if t426 = true then ((impl_RangeOk.f a1_0 a1_1).bind fun t427 => (impl_RangeJoin.j0 k (!t427) a0_0 a0_1 a1_0 a1_1)) else (impl_RangeJoin.j0 k true a0_0 a0_1 a1_0 a1_1))) = some (r1, r2) := h; clear h; have HC3 := Aside0.mk H; clear H
 go_enter Tryd.func22, Tryd.ntmps22
 go_upto_region 1 with (first | ((with_reducible refine gate_dst (N := 2) rfl ?_); refine box_y 2 #[.int .i64 a0_0, .int .i64 a0_1] 25 (h := ?_); intro gb423 hg w4 hbox hb; have n0_ := Aside0.mk (below_step (sq_below HB.out) hb); have n1_ := Aside0.mk (hbox); have n2_ := ge_ hg (below_size (sq_below HB.out)); have n3_ := ge_ hg (below_size (sq_below HB.out)); clear HB; have HB := n0_; have BK423 := n1_; have GW423 := n2_; have GE423 := n3_; clear n0_ n1_ n2_ n3_; clear hb hbox hg) | ((with_reducible refine gate_dst (N := 3) rfl ?_); refine box_y 3 #[.int .i64 a1_0, .int .i64 a1_1] 25 (h := ?_); intro gb424 hg w5 hbox hb; have n0_ := Aside0.mk (blk_below (sq_blk BK423.out) hb); have n1_ := Aside0.mk (below_step (sq_below1 HB.out GE423.out) hb); have n2_ := Aside0.mk (hbox); have n3_ := ge_ hg (below_size (sq_below1 HB.out GE423.out)); have n4_ := ge_ hg (below_size (sq_below1 HB.out GE423.out)); have n5_ := nb_ hg BK423; have n6_ := Aside0.mk (Ne.symm n5_.out); clear BK423; clear HB; have BK423 := n0_; have HB := n1_; have BK424 := n2_; have GW424 := n3_; have GE424 := n4_; have NB423_424 := n5_; have NB424_423 := n6_; clear n0_ n1_ n2_ n3_ n4_ n5_ n6_; clear hb hbox hg) | ((with_reducible refine gate_dst (N := 4) rfl ?_); refine box_y 4 #[.int .i64 0, .int .i64 0] 25 (h := ?_); intro gb425 hg w6 hbox hb; have n0_ := Aside0.mk (blk_below (sq_blk BK423.out) hb); have n1_ := Aside0.mk (blk_below (sq_blk BK424.out) hb); have n2_ := Aside0.mk (below_step (sq_below2 HB.out GE423.out GE424.out) hb); have n3_ := Aside0.mk (hbox); have n4_ := ge_ hg (below_size (sq_below2 HB.out GE423.out GE424.out)); have n5_ := ge_ hg (below_size (sq_below2 HB.out GE423.out GE424.out)); have n6_ := nb_ hg BK423; have n7_ := Aside0.mk (Ne.symm n6_.out); have n8_ := nb_ hg BK424; have n9_ := Aside0.mk (Ne.symm n8_.out); clear BK423; clear BK424; clear HB; have BK423 := n0_; have BK424 := n1_; have HB := n2_; have BK425 := n3_; have GW425 := n4_; have GE425 := n5_; have NB423_425 := n6_; have NB425_423 := n7_; have NB424_425 := n8_; have NB425_424 := n9_; clear n0_ n1_ n2_ n3_ n4_ n5_ n6_ n7_ n8_ n9_; clear hb hbox hg))
 (try simp only [Act.put, List.setIfInBounds_toArray, List.set_cons_zero, List.set_cons_succ])
 go_cut [14] (fun v14 wc => ∃ (kq : Nat) (x14_2 : Bool), v14 = .bool x14_2 ∧ Aside0 (impl_RangeJoin.j0 kq x14_2 a0_0 a0_1 a1_0 a1_1 = some (r1, r2)) ∧ Aside0 (kq ≤ k) ∧ Aside0 (wc.heap[gb423]? = some (.cells #[.int .i64 a0_0, .int .i64 a0_1] 25 (0, 0))) ∧ Aside0 (wc.heap[gb424]? = some (.cells #[.int .i64 a1_0, .int .i64 a1_1] 25 (0, 0))) ∧ Aside0 (wc.heap[gb425]? = some (.cells #[.int .i64 0, .int .i64 0] 25 (0, 0))) ∧ Aside0 (Below w.heap.size w wc))
 case first =>
  have H := HC3.out; clear HC3; replace H := Option.bind_eq_some_iff.mp H; obtain ⟨t426, A70, H⟩ := H; (try dsimp only at H); have A7 := Aside0.mk A70; clear A70
  by_cases c8 : t426 = true
  ·
   subst c8; have H1 := ifp_ H
   clear H; have H := H1; clear H1; replace H := Option.bind_eq_some_iff.mp H; obtain ⟨t427, A90, H⟩ := H; (try dsimp only at H); have A9 := Aside0.mk A90; clear A90; have H' := Aside0.mk H; clear H; have hnb10 := NB423_424.out; have hnc10 := NB424_423.out; have hnb11 := NB423_425.out; have hnc11 := NB425_423.out; have hcz12_0 := cl_ (v := .int .i64 a0_0) BK423 0; have hcz12_1 := cl_ (v := .int .i64 a0_1) BK423 1; have hfz12_0 := blk_frozen BK423.out 0; have hfz12_1 := blk_frozen BK423.out 1
   go_wp2_with (first | ((with_reducible refine gate_callee (f := 57) rfl ?_); refine gl_ 8 Tryd.func57 #[.agg #[.int .i64 a0_0, .int .i64 a0_1]] (h := ?_); (with_reducible refine (impl_RangeOk.calls a0_0 a0_1 true _ ?side1 A7.out).mono ?_); (case side1 => exact GL0.below HG0.out (sq_below3 HB.out GE423.out GE424.out GE425.out)); rintro e w13 ⟨rfl, hb⟩; refine ⟨_, rfl, ?_⟩; replace BK423 := bb_ BK423 hb; replace BK424 := bb_ BK424 hb; replace BK425 := bb_ BK425 hb; replace HB := hb3_ HB hb GE423 GE424 GE425; (try clear hb); have hnb14 := NB424_425.out; have hnc14 := NB425_424.out; have hcz15_0 := cl_ (v := .int .i64 a1_0) BK424 0; have hcz15_1 := cl_ (v := .int .i64 a1_1) BK424 1; have hfz15_0 := blk_frozen BK424.out 0; have hfz15_1 := blk_frozen BK424.out 1) | (go_at_call 57; (with_reducible refine (impl_RangeOk.calls a1_0 a1_1 t427 _ ?side1 A9.out).mono ?_); (case side1 => exact GL0.below HG0.out (sq_below3 HB.out GE423.out GE424.out GE425.out)); rintro e w16 ⟨rfl, hb⟩; replace BK423 := bb_ BK423 hb; replace BK424 := bb_ BK424 hb; replace BK425 := bb_ BK425 hb; replace HB := hb3_ HB hb GE423 GE424 GE425; (try clear hb)))
   go_meet
   case rel => exact ⟨_, (!t427), (by first | rfl | (simp; done) | (simp [*]; done)), H', ⟨by first | omega | exact Nat.le_refl _⟩, bk_ BK423, bk_ BK424, bk_ BK425, ⟨by repeat (first | (with_reducible first | exact HB.out | apply below_alloc | apply pw_below_drewN | apply below_drew1 | refine below_set ?_ GE423.out | refine below_set ?_ GE424.out | refine below_set ?_ GE425.out) | exact HB.out)⟩⟩
  ·
   replace c8 := Bool.eq_false_iff.mpr c8; subst c8; have H1 := ifn_ H
   clear H; have H := H1; clear H1; have H' := Aside0.mk H; clear H; have hnb17 := NB423_424.out; have hnc17 := NB424_423.out; have hnb18 := NB423_425.out; have hnc18 := NB425_423.out; have hcz19_0 := cl_ (v := .int .i64 a0_0) BK423 0; have hcz19_1 := cl_ (v := .int .i64 a0_1) BK423 1; have hfz19_0 := blk_frozen BK423.out 0; have hfz19_1 := blk_frozen BK423.out 1
   go_wp2_with (first | ((with_reducible refine gate_callee (f := 57) rfl ?_); refine gl_ 8 Tryd.func57 #[.agg #[.int .i64 a0_0, .int .i64 a0_1]] (h := ?_); (with_reducible refine (impl_RangeOk.calls a0_0 a0_1 false _ ?side1 A7.out).mono ?_); (case side1 => exact GL0.below HG0.out (sq_below3 HB.out GE423.out GE424.out GE425.out)); rintro e w20 ⟨rfl, hb⟩; refine ⟨_, rfl, ?_⟩; replace BK423 := bb_ BK423 hb; replace BK424 := bb_ BK424 hb; replace BK425 := bb_ BK425 hb; replace HB := hb3_ HB hb GE423 GE424 GE425; (try clear hb)))
   go_meet
   case rel => exact ⟨_, (true), (by first | rfl | (simp; done) | (simp [*]; done)), H', ⟨by first | omega | exact Nat.le_refl _⟩, bk_ BK423, bk_ BK424, bk_ BK425, ⟨by repeat (first | (with_reducible first | exact HB.out | apply below_alloc | apply pw_below_drewN | apply below_drew1 | refine below_set ?_ GE423.out | refine below_set ?_ GE424.out | refine below_set ?_ GE425.out) | exact HB.out)⟩⟩
 case rest =>
  clear HC3
  try clear c1
  try clear c2
  try clear p2
  try clear c5
  try clear c8
  try clear c10
  try clear c11
  try clear c14
  try clear c17
  try clear c18
  try clear hcz12_0
  try clear hcz12_1
  try clear hcz15_0
  try clear hcz15_1
  try clear hcz19_0
  try clear hcz19_1
  try clear hfz12_0
  try clear hfz12_1
  try clear hfz15_0
  try clear hfz15_1
  try clear hfz19_0
  try clear hfz19_1
  obtain ⟨kq, x14_2, rfl, HA, HJ2, BK423, BK424, BK425, HB⟩ := hcut; cases kq with
  | zero => exact absurd HA.out (by simp [impl_RangeJoin.j0])
  | succ kj2 =>
   have H := HA.out; clear HA; simp only [impl_RangeJoin.j0] at H
   by_cases c21 : x14_2 = true
   ·
    subst c21; have H1 := ifp_ H
    clear H; have H := H1; clear H1; simp only [Option.some.injEq, Prod.mk.injEq] at H; obtain ⟨rfl, rfl⟩ := H; have hgl22_0 : wc.cell? ⟨0, 0, none⟩ = some (.int .i64 1) := GL0.c0 (GL0.below HG0.out HB.out); have hgl22_1 : wc.cell? ⟨0, 1, none⟩ = some (.int .i64 0) := GL0.c1 (GL0.below HG0.out HB.out); have hnggl22_425 : gb425 ≠ 0 := (by first | exact Nat.ne_of_gt (Nat.lt_of_lt_of_le (World.block_lt_of_cell? _ _ (GL0.c0 HG0.out)) GE425.out) | exact Nat.ne_of_gt (Nat.lt_of_lt_of_le (World.block_lt_of_cell? _ _ (GL0.c0 HG0.out)) GW425.out)); have hnhgl22_425 := Ne.symm hnggl22_425; have hcz23_0 := cl_ (v := .int .i64 0) BK425 0; have hcz23_1 := cl_ (v := .int .i64 0) BK425 1; have hfz23_0 := blk_frozen BK425.out 0; have hfz23_1 := blk_frozen BK425.out 1
    go_wp2
    refine bodyPost_ret (results_cell_row rfl _ _ gb425 25 #[.int .i64 1, .int .i64 0] (0, 0) _ rfl (bp_ BK425) Tryd.underlying25 rfl (by kernel_rfl)) rfl ?_; exact ⟨by first | rfl | (simp [errW_none, errW_some] <;> rfl) | (simp [*, errW_none, errW_some] <;> rfl), by repeat (first | (with_reducible first | exact HB.out | apply below_alloc | apply pw_below_drewN | apply below_drew1 | refine below_set ?_ GE425.out) | exact HB.out)⟩
   ·
    replace c21 := Bool.eq_false_iff.mpr c21; subst c21; have H1 := ifn_ H
    clear H; have H := H1; clear H1; replace H := Option.bind_eq_some_iff.mp H; obtain ⟨⟨t428, t429, t430⟩, A240, H⟩ := H; (try dsimp only at H); have A24 := Aside0.mk A240; clear A240
    by_cases c25 : t430 = true
    ·
     subst c25; have H1 := ifp_ H
     clear H; have H := H1; clear H1; simp only [Option.some.injEq, Prod.mk.injEq] at H; obtain ⟨rfl, rfl⟩ := H; have hnb26 := NB423_424.out; have hnc26 := NB424_423.out; have hnb27 := NB423_425.out; have hnc27 := NB425_423.out; have hcz28_0 := cl_ (v := .int .i64 a0_0) BK423 0; have hcz28_1 := cl_ (v := .int .i64 a0_1) BK423 1; have hfz28_0 := blk_frozen BK423.out 0; have hfz28_1 := blk_frozen BK423.out 1; have hnb29 := NB424_425.out; have hnc29 := NB425_424.out; have hcz30_0 := cl_ (v := .int .i64 a1_0) BK424 0; have hcz30_1 := cl_ (v := .int .i64 a1_1) BK424 1; have hfz30_0 := blk_frozen BK424.out 0; have hfz30_1 := blk_frozen BK424.out 1
     go_wp2_with (first | ((with_reducible refine gate_callee (f := 59) rfl ?_); refine gl_ 19 Tryd.func59 #[.agg #[.int .i64 a0_0, .int .i64 a0_1], .agg #[.int .i64 a1_0, .int .i64 a1_1]] (h := ?_); (with_reducible refine (impl_orOther.calls a0_0 a0_1 a1_0 a1_1 t428 t429 true _ ?side1 A24.out).mono ?_); (case side1 => exact GL0.below HG0.out (sq_below1 HB.out GE425.out)); rintro e w31 ⟨rfl, hb⟩; refine ⟨_, rfl, ?_⟩; replace BK425 := bb_ BK425 hb; replace HB := hb1_ HB hb GE425; (try clear hb)) | ((with_reducible refine gate_dst (N := 5) rfl ?_); refine box_y 5 #[.int .i64 0, .int .i64 0] 25 (h := ?_); intro gb431 hg w32 hbox hb; have n0_ := Aside0.mk (blk_below (sq_blk BK425.out) hb); have n1_ := Aside0.mk (below_step (sq_below1 HB.out GE425.out) hb); have n2_ := Aside0.mk (hbox); have n3_ := ge_ hg (below_size (sq_below1 HB.out GE425.out)); have n4_ := ge_ hg (below_size (sq_below1 HB.out GE425.out)); have n5_ := nb_ hg BK425; have n6_ := Aside0.mk (Ne.symm n5_.out); clear BK425; clear HB; have BK425 := n0_; have HB := n1_; have BK431 := n2_; have GW431 := n3_; have GE431 := n4_; have NB425_431 := n5_; have NB431_425 := n6_; clear n0_ n1_ n2_ n3_ n4_ n5_ n6_; clear hb hbox hg; have hnb33 := NB431_425.out; have hnc33 := NB425_431.out; have hcz34_0 := cl_ (v := .int .i64 0) BK431 0; have hcz34_1 := cl_ (v := .int .i64 0) BK431 1; have hfz34_0 := blk_frozen BK431.out 0; have hfz34_1 := blk_frozen BK431.out 1; have hcz35_0 := cl_ (v := .int .i64 0) BK425 0; have hcz35_1 := cl_ (v := .int .i64 0) BK425 1; have hfz35_0 := blk_frozen BK425.out 0; have hfz35_1 := blk_frozen BK425.out 1))
     refine bodyPost_ret (results_cell_row rfl _ _ gb425 25 #[.int .i64 t428, .int .i64 t429] (0, 0) _ rfl (bp1_ BK425 NB425_431) Tryd.underlying25 rfl (by kernel_rfl)) rfl ?_; exact ⟨by first | rfl | (simp [errW_none, errW_some] <;> rfl) | (simp [*, errW_none, errW_some] <;> rfl), by repeat (first | (with_reducible first | exact HB.out | apply below_alloc | apply pw_below_drewN | apply below_drew1 | refine below_set ?_ GE425.out | refine below_set ?_ GE431.out) | exact HB.out)⟩
    ·
     replace c25 := Bool.eq_false_iff.mpr c25; subst c25; have H1 := ifn_ H
     clear H; have H := H1; clear H1; obtain ⟨ji36, hji36⟩ : ∃ j_ : Int, (mn a0_0 a1_0) = j_ := ⟨_, rfl⟩; replace H : (some (ji36, mx a0_1 a1_1)) = some (r1, r2) := by first | (rw [hji36] at H; exact H) | (simp only [hji36] at H ⊢; exact H)
     (try rw [hji36] at A24)
     have hji36_ : (if a1_0 < a0_0 then a1_0 else a0_0) = ji36 := hji36; obtain ⟨ji37, hji37⟩ : ∃ j_ : Int, (mx a0_1 a1_1) = j_ := ⟨_, rfl⟩; replace H : (some (ji36, ji37)) = some (r1, r2) := by first | (rw [hji37] at H; exact H) | (simp only [hji37] at H ⊢; exact H)
     (try rw [hji37] at A24)
     have hji37_ : (if a0_1 < a1_1 then a1_1 else a0_1) = ji37 := hji37; simp only [Option.some.injEq, Prod.mk.injEq] at H; obtain ⟨rfl, rfl⟩ := H; have hnb38 := NB423_424.out; have hnc38 := NB424_423.out; have hnb39 := NB423_425.out; have hnc39 := NB425_423.out; have hcz40_0 := cl_ (v := .int .i64 a0_0) BK423 0; have hcz40_1 := cl_ (v := .int .i64 a0_1) BK423 1; have hfz40_0 := blk_frozen BK423.out 0; have hfz40_1 := blk_frozen BK423.out 1; have hnb41 := NB424_425.out; have hnc41 := NB425_424.out; have hcz42_0 := cl_ (v := .int .i64 a1_0) BK424 0; have hcz42_1 := cl_ (v := .int .i64 a1_1) BK424 1; have hfz42_0 := blk_frozen BK424.out 0; have hfz42_1 := blk_frozen BK424.out 1
     go_wp2_with (first | ((with_reducible refine gate_callee (f := 59) rfl ?_); refine gl_ 19 Tryd.func59 #[.agg #[.int .i64 a0_0, .int .i64 a0_1], .agg #[.int .i64 a1_0, .int .i64 a1_1]] (h := ?_); (with_reducible refine (impl_orOther.calls a0_0 a0_1 a1_0 a1_1 t428 t429 false _ ?side1 A24.out).mono ?_); (case side1 => exact GL0.below HG0.out (sq_below3 HB.out GE423.out GE424.out GE425.out)); rintro e w43 ⟨rfl, hb⟩; refine ⟨_, rfl, ?_⟩; replace BK423 := bb_ BK423 hb; replace BK424 := bb_ BK424 hb; replace BK425 := bb_ BK425 hb; replace HB := hb3_ HB hb GE423 GE424 GE425; (try clear hb)) | ((with_reducible refine gate_dst (N := 5) rfl ?_); refine box_y 5 #[.int .i64 0, .int .i64 0] 25 (h := ?_); intro gb431 hg w44 hbox hb; have n0_ := Aside0.mk (blk_below (sq_blk BK423.out) hb); have n1_ := Aside0.mk (blk_below (sq_blk BK424.out) hb); have n2_ := Aside0.mk (blk_below (sq_blk BK425.out) hb); have n3_ := Aside0.mk (below_step (sq_below3 HB.out GE423.out GE424.out GE425.out) hb); have n4_ := Aside0.mk (hbox); have n5_ := ge_ hg (below_size (sq_below3 HB.out GE423.out GE424.out GE425.out)); have n6_ := ge_ hg (below_size (sq_below3 HB.out GE423.out GE424.out GE425.out)); have n7_ := nb_ hg BK423; have n8_ := Aside0.mk (Ne.symm n7_.out); have n9_ := nb_ hg BK424; have n10_ := Aside0.mk (Ne.symm n9_.out); have n11_ := nb_ hg BK425; have n12_ := Aside0.mk (Ne.symm n11_.out); clear BK423; clear BK424; clear BK425; clear HB; have BK423 := n0_; have BK424 := n1_; have BK425 := n2_; have HB := n3_; have BK431 := n4_; have GW431 := n5_; have GE431 := n6_; have NB423_431 := n7_; have NB431_423 := n8_; have NB424_431 := n9_; have NB431_424 := n10_; have NB425_431 := n11_; have NB431_425 := n12_; clear n0_ n1_ n2_ n3_ n4_ n5_ n6_ n7_ n8_ n9_ n10_ n11_ n12_; clear hb hbox hg; have hnb45 := NB431_423.out; have hnc45 := NB423_431.out; have hnb46 := NB431_424.out; have hnc46 := NB424_431.out; have hnb47 := NB431_425.out; have hnc47 := NB425_431.out; have hcz48_0 := cl_ (v := .int .i64 0) BK431 0; have hcz48_1 := cl_ (v := .int .i64 0) BK431 1; have hfz48_0 := blk_frozen BK431.out 0; have hfz48_1 := blk_frozen BK431.out 1; have hcz49_0 := cl_ (v := .int .i64 a0_0) BK423 0; have hcz49_1 := cl_ (v := .int .i64 a0_1) BK423 1; have hfz49_0 := blk_frozen BK423.out 0; have hfz49_1 := blk_frozen BK423.out 1; have hcz50_0 := cl_ (v := .int .i64 a1_0) BK424 0; have hcz50_1 := cl_ (v := .int .i64 a1_1) BK424 1; have hfz50_0 := blk_frozen BK424.out 0; have hfz50_1 := blk_frozen BK424.out 1; have hcz51_0 := cl_ (v := .int .i64 0) BK425 0; have hcz51_1 := cl_ (v := .int .i64 0) BK425 1; have hfz51_0 := blk_frozen BK425.out 0; have hfz51_1 := blk_frozen BK425.out 1))
     refine bodyPost_ret (results_cell_row rfl _ _ gb425 25 #[.int .i64 ji36, .int .i64 ji37] (0, 0) _ rfl (bp1_ BK425 NB425_431) Tryd.underlying25 rfl (by kernel_rfl)) rfl ?_; exact ⟨by first | rfl | (simp [errW_none, errW_some] <;> rfl) | (simp only [← hji36, ← hji37]; first | rfl | (simp [errW_none, errW_some] <;> rfl)) | (simp [*, errW_none, errW_some] <;> rfl), by repeat (first | (with_reducible first | exact HB.out | apply below_alloc | apply pw_below_drewN | apply below_drew1 | refine below_set ?_ GE425.out | refine below_set ?_ GE431.out) | exact HB.out)⟩

/-! ### impl_stepsOk: function 60 -/
def impl_stepsOk.l0 : Nat → List Int → List Int → Int → Int → Option (Bool)
 | 0, _, _, _, _ => none
 | k + 1, x0, x5, x6, x7 => if x7 < x6 then (if 0 ≤ x7 then (if x7 < (x5.length : Int) then ((impl_isVal.f (rd x5 x7)).bind fun t442 => (if t442 = true then (if x7 > 0 then (if 0 ≤ (wrap64 (x7 - 1)) then (if (wrap64 (x7 - 1)) < (x0.length : Int) then (if (rd x0 (wrap64 (x7 - 1))) ≥ (rd x5 x7) then (some false) else (impl_stepsOk.l0 k x0 x5 x6 (wrap64 (x7 + 1)))) else (none)) else (none)) else (impl_stepsOk.l0 k x0 x5 x6 (wrap64 (x7 + 1)))) else (some false))) else (none)) else (none)) else (some (decide ((x0.length : Int) ≤ 20)))
def impl_stepsOk.f (k : Nat) (l0 : List Int) : Option (Bool) := impl_stepsOk.l0 k l0 l0 (l0.length : Int) 0
theorem impl_stepsOk.mono_l : ∀ k, (∀ y0 y1 y2 y3, LeO (impl_stepsOk.l0 k y0 y1 y2 y3) (impl_stepsOk.l0 (k + 1) y0 y1 y2 y3))
 | 0 => fun _ _ _ _ r h => by simp [impl_stepsOk.l0] at h
 | k + 1 => by
  have ih0 := impl_stepsOk.mono_l k
  ·
   intro y0 y1 y2 y3; unfold impl_stepsOk.l0
   repeat' first
   | (with_reducible exact ih0 _ _ _ _)
   | (with_reducible exact LeO.refl _)
   | (with_reducible exact LeO.none _)
   | (with_reducible refine LeO.ite ?_ ?_)
   | (with_reducible refine LeO.bind ?_ (fun _ => ?_))
   | exact ih0 _ _ _ _
   | exact LeO.none _
   | refine LeO.ite ?_ ?_
   | refine LeO.bind ?_ (fun _ => ?_)
theorem impl_stepsOk.mono : ∀ a0 k, LeO (impl_stepsOk.f k a0) (impl_stepsOk.f (k + 1) a0) := by
 intro a0 k; have ih0 := impl_stepsOk.mono_l k; unfold impl_stepsOk.f
 repeat' first
   | (with_reducible exact ih0 _ _ _ _)
   | (with_reducible exact LeO.refl _)
   | (with_reducible exact LeO.none _)
   | (with_reducible refine LeO.ite ?_ ?_)
   | (with_reducible refine LeO.bind ?_ (fun _ => ?_))
   | exact ih0 _ _ _ _
   | exact LeO.none _
   | refine LeO.ite ?_ ?_
   | refine LeO.bind ?_ (fun _ => ?_)
set_option maxHeartbeats 8000000 in
set_option maxRecDepth 100000 in
theorem impl_stepsOk.calls (k : Nat) (A0 : Option Addr) (c0 : Nat) (l0 : List Int) (r : Bool) (w : World) (hr0 : Kd.C (Kd.int .i64) w A0 l0.length l0) (hc0 : l0.length ≤ c0) (h : impl_stepsOk.f k l0 = some r) :
  Calls Tryd.prog 60 #[.slice A0 l0.length c0] w fun e w' => e = .returned (.bool r) ∧ Drawn0 w w' := by
 have HR0 := Aside0.mk hr0; have HC0 := Aside0.mk hc0; clear hr0 hc0; have H : (impl_stepsOk.l0 k l0 l0 (l0.length : Int) 0) = some r := h; clear h; have H' := Aside0.mk H; clear H
 go_enter Tryd.func60, Tryd.ntmps60
 go_wp2
 go_loopg [7] k (fun kq v7 w' => ∃ (x7_1 : Int), v7 = .int .i64 x7_1 ∧ Aside0 (impl_stepsOk.l0 kq l0 l0 (l0.length : Int) x7_1 = some r) ∧ Aside0 (kq ≤ k) ∧ Drawn0 w w')
 case atStart => exact ⟨(0), (by first | rfl | (simp; done) | (simp [*]; done)), H', ⟨Nat.le_refl _⟩, by repeat (first | exact Drawn0.refl _ | apply Drawn0.step)⟩
 case round =>
  clear H'; obtain ⟨x7_1, rfl, HA, HK1, ⟨m1, rfl⟩⟩ := hrel; cases gk with
  | zero => exact absurd HA.out (by simp [impl_stepsOk.l0])
  | succ k1 =>
   have H := HA.out; clear HA; simp only [impl_stepsOk.l0] at H
   by_cases c2 : x7_1 < (l0.length : Int)
   ·
    rw [if_pos c2] at H; have c2b0 : decide (x7_1 < (l0.length : Int)) = true := decide_eq_true c2; clear c2
    by_cases c3 : 0 ≤ x7_1
    ·
     rw [if_pos c3] at H; have c3b0 : decide (0 ≤ x7_1) = true := decide_eq_true c3; clear c3
     by_cases c4 : x7_1 < (l0.length : Int)
     ·
      rw [if_pos c4] at H; have c4b0 : decide (x7_1 < (l0.length : Int)) = true := decide_eq_true c4; clear c4; replace H := Option.bind_eq_some_iff.mp H; obtain ⟨t442, A50, H⟩ := H; (try dsimp only at H); have A5 := Aside0.mk A50; clear A50
      by_cases c6 : t442 = true
      ·
       subst c6; have H1 := ifp_ H
       clear H; have H := H1; clear H1
       by_cases c7 : x7_1 > 0
       ·
        rw [if_pos c7] at H; have c7b0 : decide (0 < x7_1) = true := decide_eq_true c7; clear c7; obtain ⟨ji8, hji8⟩ : ∃ j_ : Int, (wrap64 (x7_1 - 1)) = j_ := ⟨_, rfl⟩; replace H : (if 0 ≤ (ji8) then (if (ji8) < (l0.length : Int) then (if (rd l0 (ji8)) ≥ (rd l0 x7_1) then (some false) else (impl_stepsOk.l0 k1 l0 l0 (l0.length : Int) (wrap64 (x7_1 + 1)))) else (none)) else (none)) = some r := by first | (rw [hji8] at H; exact H) | (simp only [hji8] at H ⊢; exact H)
        (try rw [hji8] at A5)
        have hji8w : (IntKind.i64.wrap (x7_1 - 1)) = ji8 := (i64_w _).trans hji8
        by_cases c9 : 0 ≤ (ji8)
        ·
         rw [if_pos c9] at H; have c9b0 : decide (0 ≤ (ji8)) = true := decide_eq_true c9; clear c9
         by_cases c10 : (ji8) < (l0.length : Int)
         ·
          rw [if_pos c10] at H; have c10b0 : decide ((ji8) < (l0.length : Int)) = true := decide_eq_true c10; clear c10
          by_cases c11 : (rd l0 (ji8)) ≥ (rd l0 x7_1)
          ·
           rw [if_pos c11] at H; have c11b0 : decide ((rd l0 x7_1) ≤ (rd l0 (ji8))) = true := decide_eq_true c11; clear c11; obtain rfl := Option.some.inj H; have p441 : 0 ≤ (x7_1 : Int) := sq_dec; have q441 : x7_1 < (l0.length : Int) := sq_dec; obtain ⟨ad441, e441, hx441_0⟩ := Kd.at_int HR0.out x7_1 p441 q441; cases e441; replace p441 := eq_true p441; replace q441 := eq_true q441
           go_wp2_with (first | ((with_reducible refine gate_callee (f := 80) rfl ?_); refine gl_ 13 Tryd.func80 #[.int .i64 (rd l0 x7_1)] (h := ?_); (with_reducible refine (impl_isVal.calls (rd l0 x7_1) true _ A5.out).mono ?_); rintro e w' ⟨rfl, ⟨nd, rfl⟩⟩; refine ⟨_, rfl, ?_⟩; have p443 : 0 ≤ ((ji8) : Int) := sq_dec; have q443 : (ji8) < (l0.length : Int) := sq_dec; obtain ⟨ad443, e443, hx443_0⟩ := Kd.at_int HR0.out (ji8) p443 q443; obtain rfl : ad441 = ad443 := (by injection e443); replace p443 := eq_true p443; replace q443 := eq_true q443))
           go_ret
           exact ⟨by first | rfl | (simp; done) | (simp only [← hji8] <;> (first | rfl | simp)) | (simp [*]; done), by repeat (first | exact Drawn0.refl _ | apply Drawn0.step)⟩
          ·
           rw [if_neg c11] at H; have c11b0 : decide ((rd l0 x7_1) ≤ (rd l0 (ji8))) = false := decide_eq_false c11; clear c11; have H' := Aside0.mk H; clear H; have p441 : 0 ≤ (x7_1 : Int) := sq_dec; have q441 : x7_1 < (l0.length : Int) := sq_dec; obtain ⟨ad441, e441, hx441_0⟩ := Kd.at_int HR0.out x7_1 p441 q441; cases e441; replace p441 := eq_true p441; replace q441 := eq_true q441
           go_wp2_with (first | ((with_reducible refine gate_callee (f := 80) rfl ?_); refine gl_ 13 Tryd.func80 #[.int .i64 (rd l0 x7_1)] (h := ?_); (with_reducible refine (impl_isVal.calls (rd l0 x7_1) true _ A5.out).mono ?_); rintro e w' ⟨rfl, ⟨nd, rfl⟩⟩; refine ⟨_, rfl, ?_⟩; have p443 : 0 ≤ ((ji8) : Int) := sq_dec; have q443 : (ji8) < (l0.length : Int) := sq_dec; obtain ⟨ad443, e443, hx443_0⟩ := Kd.at_int HR0.out (ji8) p443 q443; obtain rfl : ad441 = ad443 := (by injection e443); replace p443 := eq_true p443; replace q443 := eq_true q443))
           go_roundg k1
           case measure => have := HK1.out; omega
           case rel => exact ⟨(wrap64 (x7_1 + 1)), (by first | rfl | (simp; done) | (simp [*]; done)), H', ⟨by have := HK1.out; omega⟩, by repeat (first | exact Drawn0.refl _ | apply Drawn0.step)⟩
         ·
          rw [if_neg c10] at H; exact absurd H (by simp)
        ·
         rw [if_neg c9] at H; exact absurd H (by simp)
       ·
        rw [if_neg c7] at H; have c7b0 : decide (0 < x7_1) = false := decide_eq_false c7; clear c7; have H' := Aside0.mk H; clear H; have p441 : 0 ≤ (x7_1 : Int) := sq_dec; have q441 : x7_1 < (l0.length : Int) := sq_dec; obtain ⟨ad441, e441, hx441_0⟩ := Kd.at_int HR0.out x7_1 p441 q441; cases e441; replace p441 := eq_true p441; replace q441 := eq_true q441
        go_wp2_with (first | ((with_reducible refine gate_callee (f := 80) rfl ?_); refine gl_ 13 Tryd.func80 #[.int .i64 (rd l0 x7_1)] (h := ?_); (with_reducible refine (impl_isVal.calls (rd l0 x7_1) true _ A5.out).mono ?_); rintro e w' ⟨rfl, ⟨nd, rfl⟩⟩; refine ⟨_, rfl, ?_⟩))
        go_roundg k1
        case measure => have := HK1.out; omega
        case rel => exact ⟨(wrap64 (x7_1 + 1)), (by first | rfl | (simp; done) | (simp [*]; done)), H', ⟨by have := HK1.out; omega⟩, by repeat (first | exact Drawn0.refl _ | apply Drawn0.step)⟩
      ·
       replace c6 := Bool.eq_false_iff.mpr c6; subst c6; have H1 := ifn_ H
       clear H; have H := H1; clear H1; obtain rfl := Option.some.inj H; have p441 : 0 ≤ (x7_1 : Int) := sq_dec; have q441 : x7_1 < (l0.length : Int) := sq_dec; obtain ⟨ad441, e441, hx441_0⟩ := Kd.at_int HR0.out x7_1 p441 q441; cases e441; replace p441 := eq_true p441; replace q441 := eq_true q441
       go_wp2_with (first | ((with_reducible refine gate_callee (f := 80) rfl ?_); refine gl_ 13 Tryd.func80 #[.int .i64 (rd l0 x7_1)] (h := ?_); (with_reducible refine (impl_isVal.calls (rd l0 x7_1) false _ A5.out).mono ?_); rintro e w' ⟨rfl, ⟨nd, rfl⟩⟩; refine ⟨_, rfl, ?_⟩))
       go_ret
       exact ⟨by first | rfl | (simp; done) | (simp [*]; done), by repeat (first | exact Drawn0.refl _ | apply Drawn0.step)⟩
     ·
      rw [if_neg c4] at H; exact absurd H (by simp)
    ·
     rw [if_neg c3] at H; exact absurd H (by simp)
   ·
    rw [if_neg c2] at H; have c2b0 : decide (x7_1 < (l0.length : Int)) = false := decide_eq_false c2; clear c2; obtain rfl := Option.some.inj H
    go_wp2
    go_ret
    exact ⟨by first | rfl | (simp; done) | (simp [*]; done), by repeat (first | exact Drawn0.refl _ | apply Drawn0.step)⟩

end Go.Proofs.YtmibaaicadgchaaDoor.Q
