/- Functions of the translation as Lean functions, each with a proof that a call answers so; out of the seat, by this claim's own program prt.py. -/
import Derived.Test.YtfeloencepgdlaaDoorWRepsOne
import Derived.Test.YtfeloencepgdlaaDoorWGuard
import Derived.Test.YtfeloencepgdlaaDoorQx0
import Derived.Test.YtfeloencepgdlaaDoorQx12
import Derived.Test.YtfeloencepgdlaaDoorQx32
import Derived.Test.YtfeloencepgdlaaDoorQx33
import Derived.Test.YtfeloencepgdlaaDoorQx34
import Derived.Test.YtfeloencepgdlaaDoorQStep
namespace Go.Proofs.YtfeloencepgdlaaDoor.Q
open Go.RowKit Go.Proofs.YtfeloencepgdlaaDoorW.PrintWords Go.Proofs.YtfeloencepgdlaaDoorW.PrintLast Go.Proofs.YtfeloencepgdlaaDoorW.PrintMore
attribute [local go_sem] max2_int min2_int max_two min_two max_three min_three max_four min_four   -- for this text's walks alone
set_option linter.unusedVariables false
set_option linter.unusedSimpArgs false

/-! ### impl_SegHas: function 15 -/
mutual
def impl_SegHas.j0 : Nat → List Int → List (S77) → Bool → List (List (S55)) → List (S62) → List Bool → Option (Bool)
 | 0, _, _, _, _, _, _ => none
 | k + 1, x3, x4, x36, x396000, x396001, x396002 => if x36 = true then (some false) else ((impl_Seg_numbersOf.f k x396000 x396001 x396002 x3).bind fun bt399 => (if bt399.2 = true then (impl_SegHas.l0 k x4 bt399.1 x396001 (x396001.length : Int) 0 x396000 x396001 x396002) else (some false)))
def impl_SegHas.l0 : Nat → List (S77) → List Int → List (S62) → Int → Int → List (List (S55)) → List (S62) → List Bool → Option (Bool)
 | 0, _, _, _, _, _, _, _, _ => none
 | k + 1, x4, x11, x46, x47, x48, x396000, x396001, x396002 => if x48 < x47 then (if 0 ≤ x48 then (if x48 < (x46.length : Int) then (if x48 < (x11.length : Int) then (if 0 ≤ (wrap64 (x48 + 1)) then (if (wrap64 (x48 + 1)) < (x11.length : Int) then (if (rd x11 x48) > (rd x11 (wrap64 (x48 + 1))) then (impl_SegHas.j2 k x4 x11 (rd x11 x48) (rd x11 (wrap64 (x48 + 1))) x46 x47 x48 true x396000 x396001 x396002 ((rd_T62 x46 x48).f0.f0) ((rd_T62 x46 x48).f0.f1) ((rd_T62 x46 x48).f1)) else (if (rd x11 x48) = (rd x11 (wrap64 (x48 + 1))) then (if x48 < (x396002.length : Int) then (impl_SegHas.j2 k x4 x11 (rd x11 x48) (rd x11 (wrap64 (x48 + 1))) x46 x47 x48 (!(rdOf false x396002 x48)) x396000 x396001 x396002 ((rd_T62 x46 x48).f0.f0) ((rd_T62 x46 x48).f0.f1) ((rd_T62 x46 x48).f1)) else (none)) else (impl_SegHas.j2 k x4 x11 (rd x11 x48) (rd x11 (wrap64 (x48 + 1))) x46 x47 x48 false x396000 x396001 x396002 ((rd_T62 x46 x48).f0.f0) ((rd_T62 x46 x48).f0.f1) ((rd_T62 x46 x48).f1)))) else (none)) else (none)) else (none)) else (none)) else (none)) else (some true)
def impl_SegHas.j2 : Nat → List (S77) → List Int → Int → Int → List (S62) → Int → Int → Bool → List (List (S55)) → List (S62) → List Bool → Int → Int → Bool → Option (Bool)
 | 0, _, _, _, _, _, _, _, _, _, _, _, _, _, _ => none
 | k + 1, x4, x11, x15, x16, x46, x47, x48, x77, x396000, x396001, x396002, x405000, x405001, x405002 => if x77 = true then (some false) else (if x15 < 0 then (some false) else (if x16 > (x4.length : Int) then (some false) else (if 0 ≤ x15 then (if x15 ≤ x16 then (if x16 ≤ (x4.length : Int) then ((impl_Cell.f ((x4.take (x16 : Int).toNat).drop (x15 : Int).toNat) x405000 x405001 x405002).bind fun t412 => (if t412 = true then (some false) else (impl_SegHas.l0 k x4 x11 x46 x47 (wrap64 (x48 + 1)) x396000 x396001 x396002))) else (none)) else (none)) else (none))))
end
def impl_SegHas.f (k : Nat) (a0 : Int) (a1 : Int) (l2_0 : List (List (S55))) (l2_1 : List (S62)) (l2_2 : List Bool) (l3 : List Int) (l4 : List (S77)) : Option (Bool) := (impl_SegOk.f k a0 a1 l2_0 l2_1 l2_2).bind fun t396 => (if t396 = true then ((impl_valsOk.f k l3 a0).bind fun t397 => (if t397 = true then (if 0 ≤ a1 then (if a1 < (l3.length : Int) then (impl_SegHas.j0 k l3 l4 ((l4.length : Int) != (rd l3 a1)) l2_0 l2_1 l2_2) else (none)) else (none)) else (impl_SegHas.j0 k l3 l4 true l2_0 l2_1 l2_2))) else (impl_SegHas.j0 k l3 l4 true l2_0 l2_1 l2_2))
theorem impl_SegHas.mono_l : ∀ k, (∀ y0 y1 y2 y3 y4 y5, LeO (impl_SegHas.j0 k y0 y1 y2 y3 y4 y5) (impl_SegHas.j0 (k + 1) y0 y1 y2 y3 y4 y5)) ∧ (∀ y0 y1 y2 y3 y4 y5 y6 y7, LeO (impl_SegHas.l0 k y0 y1 y2 y3 y4 y5 y6 y7) (impl_SegHas.l0 (k + 1) y0 y1 y2 y3 y4 y5 y6 y7)) ∧ (∀ y0 y1 y2 y3 y4 y5 y6 y7 y8 y9 y10 y11 y12 y13, LeO (impl_SegHas.j2 k y0 y1 y2 y3 y4 y5 y6 y7 y8 y9 y10 y11 y12 y13) (impl_SegHas.j2 (k + 1) y0 y1 y2 y3 y4 y5 y6 y7 y8 y9 y10 y11 y12 y13))
 | 0 => ⟨fun _ _ _ _ _ _ r h => by simp [impl_SegHas.j0] at h, fun _ _ _ _ _ _ _ _ r h => by simp [impl_SegHas.l0] at h, fun _ _ _ _ _ _ _ _ _ _ _ _ _ _ r h => by simp [impl_SegHas.j2] at h⟩
 | k + 1 => by
  obtain ⟨ih0, ih1, ih2⟩ := impl_SegHas.mono_l k; refine ⟨?_, ?_, ?_⟩
  ·
   intro y0 y1 y2 y3 y4 y5; unfold impl_SegHas.j0
   repeat' first
   | (with_reducible exact ih0 _ _ _ _ _ _)
   | (with_reducible exact ih1 _ _ _ _ _ _ _ _)
   | (with_reducible exact ih2 _ _ _ _ _ _ _ _ _ _ _ _ _ _)
   | (with_reducible exact impl_SegOk.mono _ _ _ _ _ _)
   | (with_reducible exact impl_Seg_numbersOf.mono _ _ _ _ _)
   | (with_reducible exact impl_valsOk.mono _ _ _)
   | (with_reducible exact LeO.refl _)
   | (with_reducible exact LeO.none _)
   | (with_reducible refine LeO.ite ?_ ?_)
   | (with_reducible refine LeO.bind ?_ (fun _ => ?_))
   | exact ih0 _ _ _ _ _ _
   | exact ih1 _ _ _ _ _ _ _ _
   | exact ih2 _ _ _ _ _ _ _ _ _ _ _ _ _ _
   | exact impl_SegOk.mono _ _ _ _ _ _
   | exact impl_Seg_numbersOf.mono _ _ _ _ _
   | exact impl_valsOk.mono _ _ _
   | exact LeO.none _
   | refine LeO.ite ?_ ?_
   | refine LeO.bind ?_ (fun _ => ?_)
  ·
   intro y0 y1 y2 y3 y4 y5 y6 y7; unfold impl_SegHas.l0
   repeat' first
   | (with_reducible exact ih0 _ _ _ _ _ _)
   | (with_reducible exact ih1 _ _ _ _ _ _ _ _)
   | (with_reducible exact ih2 _ _ _ _ _ _ _ _ _ _ _ _ _ _)
   | (with_reducible exact impl_SegOk.mono _ _ _ _ _ _)
   | (with_reducible exact impl_Seg_numbersOf.mono _ _ _ _ _)
   | (with_reducible exact impl_valsOk.mono _ _ _)
   | (with_reducible exact LeO.refl _)
   | (with_reducible exact LeO.none _)
   | (with_reducible refine LeO.ite ?_ ?_)
   | (with_reducible refine LeO.bind ?_ (fun _ => ?_))
   | exact ih0 _ _ _ _ _ _
   | exact ih1 _ _ _ _ _ _ _ _
   | exact ih2 _ _ _ _ _ _ _ _ _ _ _ _ _ _
   | exact impl_SegOk.mono _ _ _ _ _ _
   | exact impl_Seg_numbersOf.mono _ _ _ _ _
   | exact impl_valsOk.mono _ _ _
   | exact LeO.none _
   | refine LeO.ite ?_ ?_
   | refine LeO.bind ?_ (fun _ => ?_)
  ·
   intro y0 y1 y2 y3 y4 y5 y6 y7 y8 y9 y10 y11 y12 y13; unfold impl_SegHas.j2
   repeat' first
   | (with_reducible exact ih0 _ _ _ _ _ _)
   | (with_reducible exact ih1 _ _ _ _ _ _ _ _)
   | (with_reducible exact ih2 _ _ _ _ _ _ _ _ _ _ _ _ _ _)
   | (with_reducible exact impl_SegOk.mono _ _ _ _ _ _)
   | (with_reducible exact impl_Seg_numbersOf.mono _ _ _ _ _)
   | (with_reducible exact impl_valsOk.mono _ _ _)
   | (with_reducible exact LeO.refl _)
   | (with_reducible exact LeO.none _)
   | (with_reducible refine LeO.ite ?_ ?_)
   | (with_reducible refine LeO.bind ?_ (fun _ => ?_))
   | exact ih0 _ _ _ _ _ _
   | exact ih1 _ _ _ _ _ _ _ _
   | exact ih2 _ _ _ _ _ _ _ _ _ _ _ _ _ _
   | exact impl_SegOk.mono _ _ _ _ _ _
   | exact impl_Seg_numbersOf.mono _ _ _ _ _
   | exact impl_valsOk.mono _ _ _
   | exact LeO.none _
   | refine LeO.ite ?_ ?_
   | refine LeO.bind ?_ (fun _ => ?_)
theorem impl_SegHas.mono : ∀ a0 a1 a2 a3 a4 a5 a6 k, LeO (impl_SegHas.f k a0 a1 a2 a3 a4 a5 a6) (impl_SegHas.f (k + 1) a0 a1 a2 a3 a4 a5 a6) := by
 intro a0 a1 a2 a3 a4 a5 a6 k; obtain ⟨ih0, ih1, ih2⟩ := impl_SegHas.mono_l k; unfold impl_SegHas.f
 repeat' first
   | (with_reducible exact ih0 _ _ _ _ _ _)
   | (with_reducible exact ih1 _ _ _ _ _ _ _ _)
   | (with_reducible exact ih2 _ _ _ _ _ _ _ _ _ _ _ _ _ _)
   | (with_reducible exact impl_SegOk.mono _ _ _ _ _ _)
   | (with_reducible exact impl_Seg_numbersOf.mono _ _ _ _ _)
   | (with_reducible exact impl_valsOk.mono _ _ _)
   | (with_reducible exact LeO.refl _)
   | (with_reducible exact LeO.none _)
   | (with_reducible refine LeO.ite ?_ ?_)
   | (with_reducible refine LeO.bind ?_ (fun _ => ?_))
   | exact ih0 _ _ _ _ _ _
   | exact ih1 _ _ _ _ _ _ _ _
   | exact ih2 _ _ _ _ _ _ _ _ _ _ _ _ _ _
   | exact impl_SegOk.mono _ _ _ _ _ _
   | exact impl_Seg_numbersOf.mono _ _ _ _ _
   | exact impl_valsOk.mono _ _ _
   | exact LeO.none _
   | refine LeO.ite ?_ ?_
   | refine LeO.bind ?_ (fun _ => ?_)
set_option maxHeartbeats 8000000 in
set_option maxRecDepth 100000 in
theorem impl_SegHas.calls (k : Nat) (a0 : Int) (a1 : Int) (A2_0 : Option Addr) (c2_0 : Nat) (l2_0 : List (List (S55))) (A2_1 : Option Addr) (c2_1 : Nat) (l2_1 : List (S62)) (A2_2 : Option Addr) (c2_2 : Nat) (l2_2 : List Bool) (A3 : Option Addr) (c3 : Nat) (l3 : List Int) (A4 : Option Addr) (c4 : Nat) (l4 : List (S77)) (r : Bool) (w : World) (hG0 : GL0 w) (hr2_0 : Kd.C (Kd.slice 55 k55) w A2_0 l2_0.length l2_0) (hc2_0 : l2_0.length ≤ c2_0) (hr2_1 : Kd.C k62 w A2_1 l2_1.length l2_1) (hc2_1 : l2_1.length ≤ c2_1) (hr2_2 : Kd.C Kd.bool w A2_2 l2_2.length l2_2) (hc2_2 : l2_2.length ≤ c2_2) (hr3 : Kd.C (Kd.int .i64) w A3 l3.length l3) (hc3 : l3.length ≤ c3) (hr4 : Kd.C k77 w A4 l4.length l4) (hc4 : l4.length ≤ c4) (h : impl_SegHas.f k a0 a1 l2_0 l2_1 l2_2 l3 l4 = some r) :
  Calls Tryd.prog 15 #[.int .i64 a0, .int .i64 a1, .agg #[.slice A2_0 l2_0.length c2_0, .slice A2_1 l2_1.length c2_1, .slice A2_2 l2_2.length c2_2], .slice A3 l3.length c3, .slice A4 l4.length c4] w fun e w' => e = .returned (.bool r) ∧ Below w.heap.size w w' := by
 have hu32 := Tryd.underlying32; have hu62 := Tryd.underlying62; have HR2_0 := Aside0.mk hr2_0; have HC2_0 := Aside0.mk hc2_0; clear hr2_0 hc2_0; have HR2_1 := Aside0.mk hr2_1; have HC2_1 := Aside0.mk hc2_1; clear hr2_1 hc2_1; have HR2_2 := Aside0.mk hr2_2; have HC2_2 := Aside0.mk hc2_2; clear hr2_2 hc2_2; have HR3 := Aside0.mk hr3; have HC3 := Aside0.mk hc3; clear hr3 hc3; have HR4 := Aside0.mk hr4; have HC4 := Aside0.mk hc4; clear hr4 hc4; have HB := Aside0.mk (Below.refl w.heap.size w); have HG0 := Aside0.mk hG0; clear hG0; have H : ((impl_SegOk.f k a0 a1 l2_0 l2_1 l2_2).bind fun t396 => (if t396 = true then ((impl_valsOk.f k l3 a0).bind fun t397 => (if t397 = true then (if 0 ≤ a1 then (if a1 < (l3.length : Int) then (impl_SegHas.j0 k l3 l4 ((l4.length : Int) != (rd l3 a1)) l2_0 l2_1 l2_2) else (none)) else (none)) else (impl_SegHas.j0 k l3 l4 true l2_0 l2_1 l2_2))) else (impl_SegHas.j0 k l3 l4 true l2_0 l2_1 l2_2))) = some r := h; clear h; have HC6 := Aside0.mk H; clear H
 go_enter Tryd.func15, Tryd.ntmps15
 go_upto_region 1 with (first | ((with_reducible refine gate_dst (N := 7) rfl ?_); (try (refine gate_guard (by rfl) ?_; dsimp only)); refine box_y 7 #[.slice A2_0 l2_0.length c2_0, .slice A2_1 l2_1.length c2_1, .slice A2_2 l2_2.length c2_2] 32 (h := ?_); intro gb395 hg w7 hbox hb; have n0_ := Aside0.mk (below_step (sq_below HB.out) hb); have n1_ := Aside0.mk (hbox); have n2_ := ge_ hg (below_size (sq_below HB.out)); have n3_ := ge_ hg (below_size (sq_below HB.out)); clear HB; have HB := n0_; have BK395 := n1_; have GW395 := n2_; have GE395 := n3_; clear n0_ n1_ n2_ n3_; clear hb hbox hg))
 repeat (go_quiet (first | ((with_reducible refine gate_dst (N := 7) rfl ?_); (try (refine gate_guard (by rfl) ?_; dsimp only)); refine box_y 7 #[.slice A2_0 l2_0.length c2_0, .slice A2_1 l2_1.length c2_1, .slice A2_2 l2_2.length c2_2] 32 (h := ?_); intro gb395 hg w7 hbox hb; have n0_ := Aside0.mk (below_step (sq_below HB.out) hb); have n1_ := Aside0.mk (hbox); have n2_ := ge_ hg (below_size (sq_below HB.out)); have n3_ := ge_ hg (below_size (sq_below HB.out)); clear HB; have HB := n0_; have BK395 := n1_; have GW395 := n2_; have GE395 := n3_; clear n0_ n1_ n2_ n3_; clear hb hbox hg)); go_upto_region 1 with (first | ((with_reducible refine gate_dst (N := 7) rfl ?_); (try (refine gate_guard (by rfl) ?_; dsimp only)); refine box_y 7 #[.slice A2_0 l2_0.length c2_0, .slice A2_1 l2_1.length c2_1, .slice A2_2 l2_2.length c2_2] 32 (h := ?_); intro gb395 hg w7 hbox hb; have n0_ := Aside0.mk (below_step (sq_below HB.out) hb); have n1_ := Aside0.mk (hbox); have n2_ := ge_ hg (below_size (sq_below HB.out)); have n3_ := ge_ hg (below_size (sq_below HB.out)); clear HB; have HB := n0_; have BK395 := n1_; have GW395 := n2_; have GE395 := n3_; clear n0_ n1_ n2_ n3_; clear hb hbox hg)))
 (try simp only [Act.put, List.setIfInBounds_toArray, List.set_cons_zero, List.set_cons_succ])
 go_cut [36] (fun v36 wc => ∃ (kq : Nat) (x36_5 : Bool), v36 = .bool x36_5 ∧ Aside0 (impl_SegHas.j0 kq l3 l4 x36_5 l2_0 l2_1 l2_2 = some r) ∧ Aside0 (kq ≤ k) ∧ Aside0 (wc.heap[gb395]? = some (.cells #[(.slice A2_0 l2_0.length c2_0), (.slice A2_1 l2_1.length c2_1), (.slice A2_2 l2_2.length c2_2)] 32 (0, 0))) ∧ Aside0 (Below w.heap.size w wc))
 case first =>
  have H := HC6.out; clear HC6; replace H := Option.bind_eq_some_iff.mp H; obtain ⟨t396, A80, H⟩ := H; (try dsimp only at H); have A8 := Aside0.mk A80; clear A80
  by_cases c9 : t396 = true
  ·
   subst c9; have H1 := ifp_ H
   clear H; have H := H1; clear H1; replace H := Option.bind_eq_some_iff.mp H; obtain ⟨t397, A100, H⟩ := H; (try dsimp only at H); have A10 := Aside0.mk A100; clear A100
   by_cases c11 : t397 = true
   ·
    subst c11; have H1 := ifp_ H
    clear H; have H := H1; clear H1
    by_cases c12 : 0 ≤ a1
    ·
     rw [if_pos c12] at H; have c12b0 : decide (0 ≤ a1) = true := decide_eq_true c12; clear c12
     (first | rw [c12b0] | (simp only [i64_w, i32_w]; rw [c12b0]) | skip)
     by_cases c13 : a1 < (l3.length : Int)
     ·
      rw [if_pos c13] at H; have c13b0 : decide (a1 < (l3.length : Int)) = true := decide_eq_true c13; clear c13; have H' := Aside0.mk H; clear H; have hcz14_0 := cl_ (v := .slice A2_0 l2_0.length c2_0) BK395 0; have hcz14_1 := cl_ (v := .slice A2_1 l2_1.length c2_1) BK395 1; have hcz14_2 := cl_ (v := .slice A2_2 l2_2.length c2_2) BK395 2; have hfz14_0 := blk_frozen BK395.out 0; have hfz14_1 := blk_frozen BK395.out 1; have hfz14_2 := blk_frozen BK395.out 2
      go_wp2_with (first | (go_at_call 9; (with_reducible refine (impl_SegOk.calls k a0 a1 _ _ l2_0 _ _ l2_1 _ _ l2_2 true _ ?side7 ?side1 ?side2 ?side3 ?side4 ?side5 ?side6 A8.out).mono ?_); (case side1 => exact sq_c (Kd.C_below HR2_0.out HB.out)); (case side2 => exact HC2_0.out); (case side3 => exact sq_c (Kd.C_below HR2_1.out HB.out)); (case side4 => exact HC2_1.out); (case side5 => exact sq_c (Kd.C_below HR2_2.out HB.out)); (case side6 => exact HC2_2.out); (case side7 => exact GL0.below HG0.out (sq_below1 HB.out GE395.out)); rintro e w15 ⟨rfl, hb⟩; replace BK395 := bb_ BK395 hb; replace HB := hb1_ HB hb GE395; (try clear hb)) | (go_at_call 46; (with_reducible refine (impl_valsOk.calls k _ _ l3 a0 true _ ?side1 ?side2 A10.out).mono ?_); (case side1 => exact sq_c (Kd.C_below HR3.out HB.out)); (case side2 => exact HC3.out); rintro e w' ⟨rfl, ⟨nd, rfl⟩⟩; (try first | exact ⟨rfl, _, World.drewN_drewN _ _ _⟩ | exact ⟨rfl, _, Eq.trans (World.drewN_drewN _ _ _) (congrArg (World.drewN _) (Nat.add_assoc _ _ _))⟩); have p398 : 0 ≤ (a1 : Int) := sq_dec; have q398 : a1 < (l3.length : Int) := sq_dec; obtain ⟨ad398, e398, hx398_0⟩ := Kd.at_int HR3.out a1 p398 q398; cases e398; replace hx398_0 := (HB.out.cell (World.block_lt_of_cell? w _ hx398_0)).trans hx398_0; replace p398 := eq_true p398; replace q398 := eq_true q398))
      repeat (go_quiet (first | (go_at_call 9; (with_reducible refine (impl_SegOk.calls k a0 a1 _ _ l2_0 _ _ l2_1 _ _ l2_2 true _ ?side7 ?side1 ?side2 ?side3 ?side4 ?side5 ?side6 A8.out).mono ?_); (case side1 => exact sq_c (Kd.C_below HR2_0.out HB.out)); (case side2 => exact HC2_0.out); (case side3 => exact sq_c (Kd.C_below HR2_1.out HB.out)); (case side4 => exact HC2_1.out); (case side5 => exact sq_c (Kd.C_below HR2_2.out HB.out)); (case side6 => exact HC2_2.out); (case side7 => exact GL0.below HG0.out (sq_below1 HB.out GE395.out)); rintro e w15 ⟨rfl, hb⟩; replace BK395 := bb_ BK395 hb; replace HB := hb1_ HB hb GE395; (try clear hb)) | (go_at_call 46; (with_reducible refine (impl_valsOk.calls k _ _ l3 a0 true _ ?side1 ?side2 A10.out).mono ?_); (case side1 => exact sq_c (Kd.C_below HR3.out HB.out)); (case side2 => exact HC3.out); rintro e w' ⟨rfl, ⟨nd, rfl⟩⟩; (try first | exact ⟨rfl, _, World.drewN_drewN _ _ _⟩ | exact ⟨rfl, _, Eq.trans (World.drewN_drewN _ _ _) (congrArg (World.drewN _) (Nat.add_assoc _ _ _))⟩); have p398 : 0 ≤ (a1 : Int) := sq_dec; have q398 : a1 < (l3.length : Int) := sq_dec; obtain ⟨ad398, e398, hx398_0⟩ := Kd.at_int HR3.out a1 p398 q398; cases e398; replace hx398_0 := (HB.out.cell (World.block_lt_of_cell? w _ hx398_0)).trans hx398_0; replace p398 := eq_true p398; replace q398 := eq_true q398)); try go_wp2_with (first | (go_at_call 9; (with_reducible refine (impl_SegOk.calls k a0 a1 _ _ l2_0 _ _ l2_1 _ _ l2_2 true _ ?side7 ?side1 ?side2 ?side3 ?side4 ?side5 ?side6 A8.out).mono ?_); (case side1 => exact sq_c (Kd.C_below HR2_0.out HB.out)); (case side2 => exact HC2_0.out); (case side3 => exact sq_c (Kd.C_below HR2_1.out HB.out)); (case side4 => exact HC2_1.out); (case side5 => exact sq_c (Kd.C_below HR2_2.out HB.out)); (case side6 => exact HC2_2.out); (case side7 => exact GL0.below HG0.out (sq_below1 HB.out GE395.out)); rintro e w15 ⟨rfl, hb⟩; replace BK395 := bb_ BK395 hb; replace HB := hb1_ HB hb GE395; (try clear hb)) | (go_at_call 46; (with_reducible refine (impl_valsOk.calls k _ _ l3 a0 true _ ?side1 ?side2 A10.out).mono ?_); (case side1 => exact sq_c (Kd.C_below HR3.out HB.out)); (case side2 => exact HC3.out); rintro e w' ⟨rfl, ⟨nd, rfl⟩⟩; (try first | exact ⟨rfl, _, World.drewN_drewN _ _ _⟩ | exact ⟨rfl, _, Eq.trans (World.drewN_drewN _ _ _) (congrArg (World.drewN _) (Nat.add_assoc _ _ _))⟩); have p398 : 0 ≤ (a1 : Int) := sq_dec; have q398 : a1 < (l3.length : Int) := sq_dec; obtain ⟨ad398, e398, hx398_0⟩ := Kd.at_int HR3.out a1 p398 q398; cases e398; replace hx398_0 := (HB.out.cell (World.block_lt_of_cell? w _ hx398_0)).trans hx398_0; replace p398 := eq_true p398; replace q398 := eq_true q398)))
      go_meet
      case rel => exact ⟨_, (((l4.length : Int) != (rd l3 a1))), (by first | rfl | (simp; done) | (simp [*]; done)), H', ⟨by first | omega | exact Nat.le_refl _⟩, bk_ BK395, ⟨sq_below1 HB.out GE395.out⟩⟩
     ·
      rw [if_neg c13] at H; exact absurd H (by simp)
    ·
     rw [if_neg c12] at H; exact absurd H (by simp)
   ·
    replace c11 := Bool.eq_false_iff.mpr c11; subst c11; have H1 := ifn_ H
    clear H; have H := H1; clear H1; have H' := Aside0.mk H; clear H; have hcz16_0 := cl_ (v := .slice A2_0 l2_0.length c2_0) BK395 0; have hcz16_1 := cl_ (v := .slice A2_1 l2_1.length c2_1) BK395 1; have hcz16_2 := cl_ (v := .slice A2_2 l2_2.length c2_2) BK395 2; have hfz16_0 := blk_frozen BK395.out 0; have hfz16_1 := blk_frozen BK395.out 1; have hfz16_2 := blk_frozen BK395.out 2
    go_wp2_with (first | (go_at_call 9; (with_reducible refine (impl_SegOk.calls k a0 a1 _ _ l2_0 _ _ l2_1 _ _ l2_2 true _ ?side7 ?side1 ?side2 ?side3 ?side4 ?side5 ?side6 A8.out).mono ?_); (case side1 => exact sq_c (Kd.C_below HR2_0.out HB.out)); (case side2 => exact HC2_0.out); (case side3 => exact sq_c (Kd.C_below HR2_1.out HB.out)); (case side4 => exact HC2_1.out); (case side5 => exact sq_c (Kd.C_below HR2_2.out HB.out)); (case side6 => exact HC2_2.out); (case side7 => exact GL0.below HG0.out (sq_below1 HB.out GE395.out)); rintro e w17 ⟨rfl, hb⟩; replace BK395 := bb_ BK395 hb; replace HB := hb1_ HB hb GE395; (try clear hb)) | (go_at_call 46; (with_reducible refine (impl_valsOk.calls k _ _ l3 a0 false _ ?side1 ?side2 A10.out).mono ?_); (case side1 => exact sq_c (Kd.C_below HR3.out HB.out)); (case side2 => exact HC3.out); rintro e w' ⟨rfl, ⟨nd, rfl⟩⟩; (try first | exact ⟨rfl, _, World.drewN_drewN _ _ _⟩ | exact ⟨rfl, _, Eq.trans (World.drewN_drewN _ _ _) (congrArg (World.drewN _) (Nat.add_assoc _ _ _))⟩)))
    repeat (go_quiet (first | (go_at_call 9; (with_reducible refine (impl_SegOk.calls k a0 a1 _ _ l2_0 _ _ l2_1 _ _ l2_2 true _ ?side7 ?side1 ?side2 ?side3 ?side4 ?side5 ?side6 A8.out).mono ?_); (case side1 => exact sq_c (Kd.C_below HR2_0.out HB.out)); (case side2 => exact HC2_0.out); (case side3 => exact sq_c (Kd.C_below HR2_1.out HB.out)); (case side4 => exact HC2_1.out); (case side5 => exact sq_c (Kd.C_below HR2_2.out HB.out)); (case side6 => exact HC2_2.out); (case side7 => exact GL0.below HG0.out (sq_below1 HB.out GE395.out)); rintro e w17 ⟨rfl, hb⟩; replace BK395 := bb_ BK395 hb; replace HB := hb1_ HB hb GE395; (try clear hb)) | (go_at_call 46; (with_reducible refine (impl_valsOk.calls k _ _ l3 a0 false _ ?side1 ?side2 A10.out).mono ?_); (case side1 => exact sq_c (Kd.C_below HR3.out HB.out)); (case side2 => exact HC3.out); rintro e w' ⟨rfl, ⟨nd, rfl⟩⟩; (try first | exact ⟨rfl, _, World.drewN_drewN _ _ _⟩ | exact ⟨rfl, _, Eq.trans (World.drewN_drewN _ _ _) (congrArg (World.drewN _) (Nat.add_assoc _ _ _))⟩))); try go_wp2_with (first | (go_at_call 9; (with_reducible refine (impl_SegOk.calls k a0 a1 _ _ l2_0 _ _ l2_1 _ _ l2_2 true _ ?side7 ?side1 ?side2 ?side3 ?side4 ?side5 ?side6 A8.out).mono ?_); (case side1 => exact sq_c (Kd.C_below HR2_0.out HB.out)); (case side2 => exact HC2_0.out); (case side3 => exact sq_c (Kd.C_below HR2_1.out HB.out)); (case side4 => exact HC2_1.out); (case side5 => exact sq_c (Kd.C_below HR2_2.out HB.out)); (case side6 => exact HC2_2.out); (case side7 => exact GL0.below HG0.out (sq_below1 HB.out GE395.out)); rintro e w17 ⟨rfl, hb⟩; replace BK395 := bb_ BK395 hb; replace HB := hb1_ HB hb GE395; (try clear hb)) | (go_at_call 46; (with_reducible refine (impl_valsOk.calls k _ _ l3 a0 false _ ?side1 ?side2 A10.out).mono ?_); (case side1 => exact sq_c (Kd.C_below HR3.out HB.out)); (case side2 => exact HC3.out); rintro e w' ⟨rfl, ⟨nd, rfl⟩⟩; (try first | exact ⟨rfl, _, World.drewN_drewN _ _ _⟩ | exact ⟨rfl, _, Eq.trans (World.drewN_drewN _ _ _) (congrArg (World.drewN _) (Nat.add_assoc _ _ _))⟩))))
    go_meet
    case rel => exact ⟨_, (true), (by first | rfl | (simp; done) | (simp [*]; done)), H', ⟨by first | omega | exact Nat.le_refl _⟩, bk_ BK395, ⟨sq_below1 HB.out GE395.out⟩⟩
  ·
   replace c9 := Bool.eq_false_iff.mpr c9; subst c9; have H1 := ifn_ H
   clear H; have H := H1; clear H1; have H' := Aside0.mk H; clear H; have hcz18_0 := cl_ (v := .slice A2_0 l2_0.length c2_0) BK395 0; have hcz18_1 := cl_ (v := .slice A2_1 l2_1.length c2_1) BK395 1; have hcz18_2 := cl_ (v := .slice A2_2 l2_2.length c2_2) BK395 2; have hfz18_0 := blk_frozen BK395.out 0; have hfz18_1 := blk_frozen BK395.out 1; have hfz18_2 := blk_frozen BK395.out 2
   go_wp2_with (first | (go_at_call 9; (with_reducible refine (impl_SegOk.calls k a0 a1 _ _ l2_0 _ _ l2_1 _ _ l2_2 false _ ?side7 ?side1 ?side2 ?side3 ?side4 ?side5 ?side6 A8.out).mono ?_); (case side1 => exact sq_c (Kd.C_below HR2_0.out HB.out)); (case side2 => exact HC2_0.out); (case side3 => exact sq_c (Kd.C_below HR2_1.out HB.out)); (case side4 => exact HC2_1.out); (case side5 => exact sq_c (Kd.C_below HR2_2.out HB.out)); (case side6 => exact HC2_2.out); (case side7 => exact GL0.below HG0.out (sq_below1 HB.out GE395.out)); rintro e w19 ⟨rfl, hb⟩; replace BK395 := bb_ BK395 hb; replace HB := hb1_ HB hb GE395; (try clear hb)))
   repeat (go_quiet (first | (go_at_call 9; (with_reducible refine (impl_SegOk.calls k a0 a1 _ _ l2_0 _ _ l2_1 _ _ l2_2 false _ ?side7 ?side1 ?side2 ?side3 ?side4 ?side5 ?side6 A8.out).mono ?_); (case side1 => exact sq_c (Kd.C_below HR2_0.out HB.out)); (case side2 => exact HC2_0.out); (case side3 => exact sq_c (Kd.C_below HR2_1.out HB.out)); (case side4 => exact HC2_1.out); (case side5 => exact sq_c (Kd.C_below HR2_2.out HB.out)); (case side6 => exact HC2_2.out); (case side7 => exact GL0.below HG0.out (sq_below1 HB.out GE395.out)); rintro e w19 ⟨rfl, hb⟩; replace BK395 := bb_ BK395 hb; replace HB := hb1_ HB hb GE395; (try clear hb))); try go_wp2_with (first | (go_at_call 9; (with_reducible refine (impl_SegOk.calls k a0 a1 _ _ l2_0 _ _ l2_1 _ _ l2_2 false _ ?side7 ?side1 ?side2 ?side3 ?side4 ?side5 ?side6 A8.out).mono ?_); (case side1 => exact sq_c (Kd.C_below HR2_0.out HB.out)); (case side2 => exact HC2_0.out); (case side3 => exact sq_c (Kd.C_below HR2_1.out HB.out)); (case side4 => exact HC2_1.out); (case side5 => exact sq_c (Kd.C_below HR2_2.out HB.out)); (case side6 => exact HC2_2.out); (case side7 => exact GL0.below HG0.out (sq_below1 HB.out GE395.out)); rintro e w19 ⟨rfl, hb⟩; replace BK395 := bb_ BK395 hb; replace HB := hb1_ HB hb GE395; (try clear hb))))
   go_meet
   case rel => exact ⟨_, (true), (by first | rfl | (simp; done) | (simp [*]; done)), H', ⟨by first | omega | exact Nat.le_refl _⟩, bk_ BK395, ⟨sq_below1 HB.out GE395.out⟩⟩
 case rest =>
  clear HC6
  try clear c1
  try clear c2
  try clear p2
  try clear c3
  try clear p3
  try clear q3
  try clear hx3
  try clear c4
  try clear c9
  try clear c11
  try clear c12
  try clear c12b0
  try clear c13
  try clear c13b0
  try clear c15
  try clear hcz14_0
  try clear hcz14_1
  try clear hcz14_2
  try clear hcz16_0
  try clear hcz16_1
  try clear hcz16_2
  try clear hcz18_0
  try clear hcz18_1
  try clear hcz18_2
  try clear hfz14_0
  try clear hfz14_1
  try clear hfz14_2
  try clear hfz16_0
  try clear hfz16_1
  try clear hfz16_2
  try clear hfz18_0
  try clear hfz18_1
  try clear hfz18_2
  try clear hx398_0
  try clear p398
  try clear q398
  obtain ⟨kq, x36_5, rfl, HA, HJ5, BK395, HB⟩ := hcut; cases kq with
  | zero => exact absurd HA.out (by simp [impl_SegHas.j0])
  | succ kj5 =>
   have H := HA.out; clear HA; simp only [impl_SegHas.j0] at H
   by_cases c20 : x36_5 = true
   ·
    subst c20; have H1 := ifp_ H
    clear H; have H := H1; clear H1; obtain rfl := Option.some.inj H
    go_wp2
    repeat (go_quiet (fail); try go_wp2)
    go_ret
    exact ⟨by first | rfl | (simp [errW_none, errW_some] <;> rfl) | (simp [*, errW_none, errW_some] <;> rfl), sq_below1 HB.out GE395.out⟩
   ·
    replace c20 := Bool.eq_false_iff.mpr c20; subst c20; have H1 := ifn_ H
    clear H; have H := H1; clear H1; replace H := Option.bind_eq_some_iff.mp H; obtain ⟨⟨t399, t402⟩, A210, H⟩ := H; (try dsimp only at H); have A21 := Aside0.mk A210; clear A210
    by_cases c22 : t402 = true
    ·
     subst c22; have H1 := ifp_ H
     clear H; have H := H1; clear H1; have H' := Aside0.mk H; clear H; have hcz23_0 := cl_ (v := .slice A2_0 l2_0.length c2_0) BK395 0; have hcz23_1 := cl_ (v := .slice A2_1 l2_1.length c2_1) BK395 1; have hcz23_2 := cl_ (v := .slice A2_2 l2_2.length c2_2) BK395 2; have hfz23_0 := blk_frozen BK395.out 0; have hfz23_1 := blk_frozen BK395.out 1; have hfz23_2 := blk_frozen BK395.out 2
     go_wp2_with (first | (go_at_call 47; (with_reducible refine (impl_Seg_numbersOf.calls kj5 _ _ l2_0 _ _ l2_1 _ _ l2_2 _ _ l3 t399 true _ ?side1 ?side2 ?side3 ?side4 ?side5 ?side6 ?side7 ?side8 A21.out).mono ?_); (case side1 => exact sq_c (Kd.C_below HR2_0.out HB.out)); (case side2 => exact HC2_0.out); (case side3 => exact sq_c (Kd.C_below HR2_1.out HB.out)); (case side4 => exact HC2_1.out); (case side5 => exact sq_c (Kd.C_below HR2_2.out HB.out)); (case side6 => exact HC2_2.out); (case side7 => exact sq_c (Kd.C_below HR3.out HB.out)); (case side8 => exact HC3.out); rintro e w24 ⟨v400, rfl, ho0, hb⟩; have n0_ := Aside0.mk (Kd.R_lower ho0 (below_size (sq_below1 HB.out GE395.out))); have n1_ := Aside0.mk (blk_below (sq_blk BK395.out) hb); have n2_ := Aside0.mk (below_step (sq_below1 HB.out GE395.out) hb); clear BK395; clear HB; have HO401 := n0_; have BK395 := n1_; have HB := n2_; clear n0_ n1_ n2_; (try clear hb); (try clear ho0); have hcz25_0 := cl_ (v := .slice A2_0 l2_0.length c2_0) BK395 0; have hcz25_1 := cl_ (v := .slice A2_1 l2_1.length c2_1) BK395 1; have hcz25_2 := cl_ (v := .slice A2_2 l2_2.length c2_2) BK395 2; have hfz25_0 := blk_frozen BK395.out 0; have hfz25_1 := blk_frozen BK395.out 1; have hfz25_2 := blk_frozen BK395.out 2))
     repeat (go_quiet (first | (go_at_call 47; (with_reducible refine (impl_Seg_numbersOf.calls kj5 _ _ l2_0 _ _ l2_1 _ _ l2_2 _ _ l3 t399 true _ ?side1 ?side2 ?side3 ?side4 ?side5 ?side6 ?side7 ?side8 A21.out).mono ?_); (case side1 => exact sq_c (Kd.C_below HR2_0.out HB.out)); (case side2 => exact HC2_0.out); (case side3 => exact sq_c (Kd.C_below HR2_1.out HB.out)); (case side4 => exact HC2_1.out); (case side5 => exact sq_c (Kd.C_below HR2_2.out HB.out)); (case side6 => exact HC2_2.out); (case side7 => exact sq_c (Kd.C_below HR3.out HB.out)); (case side8 => exact HC3.out); rintro e w24 ⟨v400, rfl, ho0, hb⟩; have n0_ := Aside0.mk (Kd.R_lower ho0 (below_size (sq_below1 HB.out GE395.out))); have n1_ := Aside0.mk (blk_below (sq_blk BK395.out) hb); have n2_ := Aside0.mk (below_step (sq_below1 HB.out GE395.out) hb); clear BK395; clear HB; have HO401 := n0_; have BK395 := n1_; have HB := n2_; clear n0_ n1_ n2_; (try clear hb); (try clear ho0); have hcz25_0 := cl_ (v := .slice A2_0 l2_0.length c2_0) BK395 0; have hcz25_1 := cl_ (v := .slice A2_1 l2_1.length c2_1) BK395 1; have hcz25_2 := cl_ (v := .slice A2_2 l2_2.length c2_2) BK395 2; have hfz25_0 := blk_frozen BK395.out 0; have hfz25_1 := blk_frozen BK395.out 1; have hfz25_2 := blk_frozen BK395.out 2)); try go_wp2_with (first | (go_at_call 47; (with_reducible refine (impl_Seg_numbersOf.calls kj5 _ _ l2_0 _ _ l2_1 _ _ l2_2 _ _ l3 t399 true _ ?side1 ?side2 ?side3 ?side4 ?side5 ?side6 ?side7 ?side8 A21.out).mono ?_); (case side1 => exact sq_c (Kd.C_below HR2_0.out HB.out)); (case side2 => exact HC2_0.out); (case side3 => exact sq_c (Kd.C_below HR2_1.out HB.out)); (case side4 => exact HC2_1.out); (case side5 => exact sq_c (Kd.C_below HR2_2.out HB.out)); (case side6 => exact HC2_2.out); (case side7 => exact sq_c (Kd.C_below HR3.out HB.out)); (case side8 => exact HC3.out); rintro e w24 ⟨v400, rfl, ho0, hb⟩; have n0_ := Aside0.mk (Kd.R_lower ho0 (below_size (sq_below1 HB.out GE395.out))); have n1_ := Aside0.mk (blk_below (sq_blk BK395.out) hb); have n2_ := Aside0.mk (below_step (sq_below1 HB.out GE395.out) hb); clear BK395; clear HB; have HO401 := n0_; have BK395 := n1_; have HB := n2_; clear n0_ n1_ n2_; (try clear hb); (try clear ho0); have hcz25_0 := cl_ (v := .slice A2_0 l2_0.length c2_0) BK395 0; have hcz25_1 := cl_ (v := .slice A2_1 l2_1.length c2_1) BK395 1; have hcz25_2 := cl_ (v := .slice A2_2 l2_2.length c2_2) BK395 2; have hfz25_0 := blk_frozen BK395.out 0; have hfz25_1 := blk_frozen BK395.out 1; have hfz25_2 := blk_frozen BK395.out 2)))
     go_loopg [48] kj5 (fun kq v48 w' => ∃ (x48_2 : Int), v48 = .int .i64 x48_2 ∧ Aside0 (impl_SegHas.l0 kq l4 t399 l2_1 (l2_1.length : Int) x48_2 l2_0 l2_1 l2_2 = some r) ∧ Aside0 (kq ≤ kj5) ∧ Aside0 (Kd.R (Kd.int .i64) 3 w' w.heap.size (fun _ => True) v400 t399) ∧ Aside0 (w'.heap[gb395]? = some (.cells #[(.slice A2_0 l2_0.length c2_0), (.slice A2_1 l2_1.length c2_1), (.slice A2_2 l2_2.length c2_2)] 32 (0, 0))) ∧ Aside0 (Below w.heap.size w w'))
     case atStart => exact ⟨(0), (by first | rfl | (simp; done) | (simp [*]; done)), H', ⟨Nat.le_refl _⟩, ⟨by (with_reducible repeat (first | apply Kd.R_alloc | apply Kd.R_drewN | apply Kd.R_drew)); exact HO401.out⟩, bk_ BK395, ⟨sq_below1 HB.out GE395.out⟩⟩
     case round =>
      clear H'
      try clear c1
      try clear c2
      try clear p2
      try clear c3
      try clear p3
      try clear q3
      try clear hx3
      try clear c4
      try clear c9
      try clear c11
      try clear c12
      try clear c12b0
      try clear c13
      try clear c13b0
      try clear c15
      try clear c20
      try clear c22
      try clear hcz14_0
      try clear hcz14_1
      try clear hcz14_2
      try clear hcz16_0
      try clear hcz16_1
      try clear hcz16_2
      try clear hcz18_0
      try clear hcz18_1
      try clear hcz18_2
      try clear hcz23_0
      try clear hcz23_1
      try clear hcz23_2
      try clear hcz25_0
      try clear hcz25_1
      try clear hcz25_2
      try clear hfz14_0
      try clear hfz14_1
      try clear hfz14_2
      try clear hfz16_0
      try clear hfz16_1
      try clear hfz16_2
      try clear hfz18_0
      try clear hfz18_1
      try clear hfz18_2
      try clear hfz23_0
      try clear hfz23_1
      try clear hfz23_2
      try clear hfz25_0
      try clear hfz25_1
      try clear hfz25_2
      try clear hx398_0
      try clear p2
      try clear p3
      try clear p398
      try clear q3
      try clear q398
      obtain ⟨x48_2, rfl, HA, HK2, HO_11, BK395, HB⟩ := hrel; cases gk with
      | zero => exact absurd HA.out (by simp [impl_SegHas.l0])
      | succ k2 =>
       have H := HA.out; clear HA; simp only [impl_SegHas.l0] at H
       by_cases c26 : x48_2 < (l2_1.length : Int)
       ·
        rw [if_pos c26] at H; have c26b0 : decide (x48_2 < (l2_1.length : Int)) = true := decide_eq_true c26; clear c26
        by_cases c27 : 0 ≤ x48_2
        ·
         rw [if_pos c27] at H; have c27b0 : decide (0 ≤ x48_2) = true := decide_eq_true c27; clear c27
         by_cases c28 : x48_2 < (l2_1.length : Int)
         ·
          rw [if_pos c28] at H; have c28b0 : decide (x48_2 < (l2_1.length : Int)) = true := decide_eq_true c28; clear c28
          by_cases c29 : x48_2 < (t399.length : Int)
          ·
           rw [if_pos c29] at H; have c29b0 : decide (x48_2 < (t399.length : Int)) = true := decide_eq_true c29; clear c29; obtain ⟨ji30, hji30⟩ : ∃ j_ : Int, (wrap64 (x48_2 + 1)) = j_ := ⟨_, rfl⟩; replace H : (if 0 ≤ (ji30) then (if (ji30) < (t399.length : Int) then (if (rd t399 x48_2) > (rd t399 (ji30)) then (impl_SegHas.j2 k2 l4 t399 (rd t399 x48_2) (rd t399 (ji30)) l2_1 (l2_1.length : Int) x48_2 true l2_0 l2_1 l2_2 ((rd_T62 l2_1 x48_2).f0.f0) ((rd_T62 l2_1 x48_2).f0.f1) ((rd_T62 l2_1 x48_2).f1)) else (if (rd t399 x48_2) = (rd t399 (ji30)) then (if x48_2 < (l2_2.length : Int) then (impl_SegHas.j2 k2 l4 t399 (rd t399 x48_2) (rd t399 (ji30)) l2_1 (l2_1.length : Int) x48_2 (!(rdOf false l2_2 x48_2)) l2_0 l2_1 l2_2 ((rd_T62 l2_1 x48_2).f0.f0) ((rd_T62 l2_1 x48_2).f0.f1) ((rd_T62 l2_1 x48_2).f1)) else (none)) else (impl_SegHas.j2 k2 l4 t399 (rd t399 x48_2) (rd t399 (ji30)) l2_1 (l2_1.length : Int) x48_2 false l2_0 l2_1 l2_2 ((rd_T62 l2_1 x48_2).f0.f0) ((rd_T62 l2_1 x48_2).f0.f1) ((rd_T62 l2_1 x48_2).f1)))) else (none)) else (none)) = some r := by first | (rw [hji30] at H; exact H) | (simp only [hji30] at H ⊢; exact H)
           have hji30w : (IntKind.i64.wrap (x48_2 + 1)) = ji30 := (i64_w _).trans hji30
           by_cases c31 : 0 ≤ (ji30)
           ·
            rw [if_pos c31] at H; have c31b0 : decide (0 ≤ (ji30)) = true := decide_eq_true c31; clear c31
            by_cases c32 : (ji30) < (t399.length : Int)
            ·
             rw [if_pos c32] at H; have c32b0 : decide ((ji30) < (t399.length : Int)) = true := decide_eq_true c32; clear c32; have HC33 := Aside0.mk H; clear H; have p403 : 0 ≤ (x48_2 : Int) := sq_dec; have q403 : x48_2 < (l2_1.length : Int) := sq_dec; obtain ⟨ad403, e403, hx403_0, hx403_1, hx403_2⟩ := at_T62 HR2_1.out x48_2 p403 q403; cases e403; replace hx403_0 := (HB.out.cell (World.block_lt_of_cell? w _ hx403_0)).trans hx403_0; replace hx403_1 := (HB.out.cell (World.block_lt_of_cell? w _ hx403_1)).trans hx403_1; replace hx403_2 := (HB.out.cell (World.block_lt_of_cell? w _ hx403_2)).trans hx403_2; replace p403 := eq_true p403; replace q403 := eq_true q403
             go_upto_region 10 with (first | ((with_reducible refine gate_dst (N := 14) rfl ?_); (try (refine gate_guard (by rfl) ?_; dsimp only)); refine box_y 14 #[.int .i64 0, .int .i64 0, .bool false] 62 (h := ?_); intro gb404 hg w34 hbox hb; have n0_ := Aside0.mk (Kd.R_below (sq_row HO_11.out) hb); have n1_ := Aside0.mk (blk_below (sq_blk BK395.out) hb); have n2_ := Aside0.mk (below_step (sq_below1 HB.out GE395.out) hb); have n3_ := Aside0.mk (hbox); have n4_ := ge_ hg (below_size (sq_below1 HB.out GE395.out)); have n5_ := ge_ hg (below_size (sq_below1 HB.out GE395.out)); have n6_ := nb_ hg BK395; have n7_ := Aside0.mk (Ne.symm n6_.out); clear HO_11; clear BK395; clear HB; have HO_11 := n0_; have BK395 := n1_; have HB := n2_; have BK404 := n3_; have GW404 := n4_; have GE404 := n5_; have NB395_404 := n6_; have NB404_395 := n7_; clear n0_ n1_ n2_ n3_ n4_ n5_ n6_ n7_; clear hb hbox hg; have hnb35 := NB404_395.out; have hnc35 := NB395_404.out; have hcz36_0 := cl_ (v := .int .i64 0) BK404 0; have hcz36_1 := cl_ (v := .int .i64 0) BK404 1; have hcz36_2 := cl_ (v := .bool false) BK404 2; have hfz36_0 := blk_frozen BK404.out 0; have hfz36_1 := blk_frozen BK404.out 1; have hfz36_2 := blk_frozen BK404.out 2; obtain ⟨Ao37, co37, eo37⟩ := Kd.R_slice HO_11.out; subst eo37; have p405 : 0 ≤ (x48_2 : Int) := sq_dec; have q405 : x48_2 < (t399.length : Int) := sq_dec; obtain ⟨ad405, e405, hx405_0⟩ := Kd.at_int (Kd.R_reads' HO_11.out).2.2 x48_2 p405 q405; cases e405; have hn405_0 : ad405.block ≠ gb404 := Kd.own_blk (Kd.R_ne HO_11.out BK404.out (by decide)); have hn405_1 : ad405.block ≠ gb404 := Kd.own_blk (Kd.R_ne HO_11.out BK404.out (by decide)); have hn405_2 : ad405.block ≠ gb404 := Kd.own_blk (Kd.R_ne HO_11.out BK404.out (by decide)); replace hx405_0 := (cell_far (p := ⟨gb404, 0, none⟩) (by first | (rw [add_block]; exact hn405_0) | (show (Addr.add _ _).block ≠ _; rw [add_block]; exact hn405_0) | exact hn405_0) (.int .i64 ((rd_T62 l2_1 x48_2).f0.f0))).trans hx405_0; replace hx405_0 := (cell_far (p := ⟨gb404, 1, none⟩) (by first | (rw [add_block]; exact hn405_1) | (show (Addr.add _ _).block ≠ _; rw [add_block]; exact hn405_1) | exact hn405_1) (.int .i64 ((rd_T62 l2_1 x48_2).f0.f1))).trans hx405_0; replace hx405_0 := (cell_far (p := ⟨gb404, 2, none⟩) (by first | (rw [add_block]; exact hn405_2) | (show (Addr.add _ _).block ≠ _; rw [add_block]; exact hn405_2) | exact hn405_2) (.bool ((rd_T62 l2_1 x48_2).f1))).trans hx405_0; (try have hy405_0 := fun (n_ : Nat) => (show (((((w34.drewN n_).setCell ⟨gb404, 0, none⟩ (.int .i64 ((rd_T62 l2_1 x48_2).f0.f0))).setCell ⟨gb404, 1, none⟩ (.int .i64 ((rd_T62 l2_1 x48_2).f0.f1))).setCell ⟨gb404, 2, none⟩ (.bool ((rd_T62 l2_1 x48_2).f1)))).cell? _ = some _ from hx405_0)); clear hn405_0; clear hn405_1; clear hn405_2; replace p405 := eq_true p405; replace q405 := eq_true q405; have p406 : 0 ≤ ((ji30) : Int) := sq_dec; have q406 : (ji30) < (t399.length : Int) := sq_dec; obtain ⟨ad406, e406, hx406_0⟩ := Kd.at_int (Kd.R_reads' HO_11.out).2.2 (ji30) p406 q406; obtain rfl : ad405 = ad406 := (by injection e406); have hn406_0 : ad405.block ≠ gb404 := Kd.own_blk (Kd.R_ne HO_11.out BK404.out (by decide)); have hn406_1 : ad405.block ≠ gb404 := Kd.own_blk (Kd.R_ne HO_11.out BK404.out (by decide)); have hn406_2 : ad405.block ≠ gb404 := Kd.own_blk (Kd.R_ne HO_11.out BK404.out (by decide)); replace hx406_0 := (cell_far (p := ⟨gb404, 0, none⟩) (by first | (rw [add_block]; exact hn406_0) | (show (Addr.add _ _).block ≠ _; rw [add_block]; exact hn406_0) | exact hn406_0) (.int .i64 ((rd_T62 l2_1 x48_2).f0.f0))).trans hx406_0; replace hx406_0 := (cell_far (p := ⟨gb404, 1, none⟩) (by first | (rw [add_block]; exact hn406_1) | (show (Addr.add _ _).block ≠ _; rw [add_block]; exact hn406_1) | exact hn406_1) (.int .i64 ((rd_T62 l2_1 x48_2).f0.f1))).trans hx406_0; replace hx406_0 := (cell_far (p := ⟨gb404, 2, none⟩) (by first | (rw [add_block]; exact hn406_2) | (show (Addr.add _ _).block ≠ _; rw [add_block]; exact hn406_2) | exact hn406_2) (.bool ((rd_T62 l2_1 x48_2).f1))).trans hx406_0; (try have hy406_0 := fun (n_ : Nat) => (show (((((w34.drewN n_).setCell ⟨gb404, 0, none⟩ (.int .i64 ((rd_T62 l2_1 x48_2).f0.f0))).setCell ⟨gb404, 1, none⟩ (.int .i64 ((rd_T62 l2_1 x48_2).f0.f1))).setCell ⟨gb404, 2, none⟩ (.bool ((rd_T62 l2_1 x48_2).f1)))).cell? _ = some _ from hx406_0)); clear hn406_0; clear hn406_1; clear hn406_2; replace p406 := eq_true p406; replace q406 := eq_true q406))
             repeat (go_quiet (first | ((with_reducible refine gate_dst (N := 14) rfl ?_); (try (refine gate_guard (by rfl) ?_; dsimp only)); refine box_y 14 #[.int .i64 0, .int .i64 0, .bool false] 62 (h := ?_); intro gb404 hg w34 hbox hb; have n0_ := Aside0.mk (Kd.R_below (sq_row HO_11.out) hb); have n1_ := Aside0.mk (blk_below (sq_blk BK395.out) hb); have n2_ := Aside0.mk (below_step (sq_below1 HB.out GE395.out) hb); have n3_ := Aside0.mk (hbox); have n4_ := ge_ hg (below_size (sq_below1 HB.out GE395.out)); have n5_ := ge_ hg (below_size (sq_below1 HB.out GE395.out)); have n6_ := nb_ hg BK395; have n7_ := Aside0.mk (Ne.symm n6_.out); clear HO_11; clear BK395; clear HB; have HO_11 := n0_; have BK395 := n1_; have HB := n2_; have BK404 := n3_; have GW404 := n4_; have GE404 := n5_; have NB395_404 := n6_; have NB404_395 := n7_; clear n0_ n1_ n2_ n3_ n4_ n5_ n6_ n7_; clear hb hbox hg; have hnb35 := NB404_395.out; have hnc35 := NB395_404.out; have hcz36_0 := cl_ (v := .int .i64 0) BK404 0; have hcz36_1 := cl_ (v := .int .i64 0) BK404 1; have hcz36_2 := cl_ (v := .bool false) BK404 2; have hfz36_0 := blk_frozen BK404.out 0; have hfz36_1 := blk_frozen BK404.out 1; have hfz36_2 := blk_frozen BK404.out 2; obtain ⟨Ao37, co37, eo37⟩ := Kd.R_slice HO_11.out; subst eo37; have p405 : 0 ≤ (x48_2 : Int) := sq_dec; have q405 : x48_2 < (t399.length : Int) := sq_dec; obtain ⟨ad405, e405, hx405_0⟩ := Kd.at_int (Kd.R_reads' HO_11.out).2.2 x48_2 p405 q405; cases e405; have hn405_0 : ad405.block ≠ gb404 := Kd.own_blk (Kd.R_ne HO_11.out BK404.out (by decide)); have hn405_1 : ad405.block ≠ gb404 := Kd.own_blk (Kd.R_ne HO_11.out BK404.out (by decide)); have hn405_2 : ad405.block ≠ gb404 := Kd.own_blk (Kd.R_ne HO_11.out BK404.out (by decide)); replace hx405_0 := (cell_far (p := ⟨gb404, 0, none⟩) (by first | (rw [add_block]; exact hn405_0) | (show (Addr.add _ _).block ≠ _; rw [add_block]; exact hn405_0) | exact hn405_0) (.int .i64 ((rd_T62 l2_1 x48_2).f0.f0))).trans hx405_0; replace hx405_0 := (cell_far (p := ⟨gb404, 1, none⟩) (by first | (rw [add_block]; exact hn405_1) | (show (Addr.add _ _).block ≠ _; rw [add_block]; exact hn405_1) | exact hn405_1) (.int .i64 ((rd_T62 l2_1 x48_2).f0.f1))).trans hx405_0; replace hx405_0 := (cell_far (p := ⟨gb404, 2, none⟩) (by first | (rw [add_block]; exact hn405_2) | (show (Addr.add _ _).block ≠ _; rw [add_block]; exact hn405_2) | exact hn405_2) (.bool ((rd_T62 l2_1 x48_2).f1))).trans hx405_0; (try have hy405_0 := fun (n_ : Nat) => (show (((((w34.drewN n_).setCell ⟨gb404, 0, none⟩ (.int .i64 ((rd_T62 l2_1 x48_2).f0.f0))).setCell ⟨gb404, 1, none⟩ (.int .i64 ((rd_T62 l2_1 x48_2).f0.f1))).setCell ⟨gb404, 2, none⟩ (.bool ((rd_T62 l2_1 x48_2).f1)))).cell? _ = some _ from hx405_0)); clear hn405_0; clear hn405_1; clear hn405_2; replace p405 := eq_true p405; replace q405 := eq_true q405; have p406 : 0 ≤ ((ji30) : Int) := sq_dec; have q406 : (ji30) < (t399.length : Int) := sq_dec; obtain ⟨ad406, e406, hx406_0⟩ := Kd.at_int (Kd.R_reads' HO_11.out).2.2 (ji30) p406 q406; obtain rfl : ad405 = ad406 := (by injection e406); have hn406_0 : ad405.block ≠ gb404 := Kd.own_blk (Kd.R_ne HO_11.out BK404.out (by decide)); have hn406_1 : ad405.block ≠ gb404 := Kd.own_blk (Kd.R_ne HO_11.out BK404.out (by decide)); have hn406_2 : ad405.block ≠ gb404 := Kd.own_blk (Kd.R_ne HO_11.out BK404.out (by decide)); replace hx406_0 := (cell_far (p := ⟨gb404, 0, none⟩) (by first | (rw [add_block]; exact hn406_0) | (show (Addr.add _ _).block ≠ _; rw [add_block]; exact hn406_0) | exact hn406_0) (.int .i64 ((rd_T62 l2_1 x48_2).f0.f0))).trans hx406_0; replace hx406_0 := (cell_far (p := ⟨gb404, 1, none⟩) (by first | (rw [add_block]; exact hn406_1) | (show (Addr.add _ _).block ≠ _; rw [add_block]; exact hn406_1) | exact hn406_1) (.int .i64 ((rd_T62 l2_1 x48_2).f0.f1))).trans hx406_0; replace hx406_0 := (cell_far (p := ⟨gb404, 2, none⟩) (by first | (rw [add_block]; exact hn406_2) | (show (Addr.add _ _).block ≠ _; rw [add_block]; exact hn406_2) | exact hn406_2) (.bool ((rd_T62 l2_1 x48_2).f1))).trans hx406_0; (try have hy406_0 := fun (n_ : Nat) => (show (((((w34.drewN n_).setCell ⟨gb404, 0, none⟩ (.int .i64 ((rd_T62 l2_1 x48_2).f0.f0))).setCell ⟨gb404, 1, none⟩ (.int .i64 ((rd_T62 l2_1 x48_2).f0.f1))).setCell ⟨gb404, 2, none⟩ (.bool ((rd_T62 l2_1 x48_2).f1)))).cell? _ = some _ from hx406_0)); clear hn406_0; clear hn406_1; clear hn406_2; replace p406 := eq_true p406; replace q406 := eq_true q406)); go_upto_region 10 with (first | ((with_reducible refine gate_dst (N := 14) rfl ?_); (try (refine gate_guard (by rfl) ?_; dsimp only)); refine box_y 14 #[.int .i64 0, .int .i64 0, .bool false] 62 (h := ?_); intro gb404 hg w34 hbox hb; have n0_ := Aside0.mk (Kd.R_below (sq_row HO_11.out) hb); have n1_ := Aside0.mk (blk_below (sq_blk BK395.out) hb); have n2_ := Aside0.mk (below_step (sq_below1 HB.out GE395.out) hb); have n3_ := Aside0.mk (hbox); have n4_ := ge_ hg (below_size (sq_below1 HB.out GE395.out)); have n5_ := ge_ hg (below_size (sq_below1 HB.out GE395.out)); have n6_ := nb_ hg BK395; have n7_ := Aside0.mk (Ne.symm n6_.out); clear HO_11; clear BK395; clear HB; have HO_11 := n0_; have BK395 := n1_; have HB := n2_; have BK404 := n3_; have GW404 := n4_; have GE404 := n5_; have NB395_404 := n6_; have NB404_395 := n7_; clear n0_ n1_ n2_ n3_ n4_ n5_ n6_ n7_; clear hb hbox hg; have hnb35 := NB404_395.out; have hnc35 := NB395_404.out; have hcz36_0 := cl_ (v := .int .i64 0) BK404 0; have hcz36_1 := cl_ (v := .int .i64 0) BK404 1; have hcz36_2 := cl_ (v := .bool false) BK404 2; have hfz36_0 := blk_frozen BK404.out 0; have hfz36_1 := blk_frozen BK404.out 1; have hfz36_2 := blk_frozen BK404.out 2; obtain ⟨Ao37, co37, eo37⟩ := Kd.R_slice HO_11.out; subst eo37; have p405 : 0 ≤ (x48_2 : Int) := sq_dec; have q405 : x48_2 < (t399.length : Int) := sq_dec; obtain ⟨ad405, e405, hx405_0⟩ := Kd.at_int (Kd.R_reads' HO_11.out).2.2 x48_2 p405 q405; cases e405; have hn405_0 : ad405.block ≠ gb404 := Kd.own_blk (Kd.R_ne HO_11.out BK404.out (by decide)); have hn405_1 : ad405.block ≠ gb404 := Kd.own_blk (Kd.R_ne HO_11.out BK404.out (by decide)); have hn405_2 : ad405.block ≠ gb404 := Kd.own_blk (Kd.R_ne HO_11.out BK404.out (by decide)); replace hx405_0 := (cell_far (p := ⟨gb404, 0, none⟩) (by first | (rw [add_block]; exact hn405_0) | (show (Addr.add _ _).block ≠ _; rw [add_block]; exact hn405_0) | exact hn405_0) (.int .i64 ((rd_T62 l2_1 x48_2).f0.f0))).trans hx405_0; replace hx405_0 := (cell_far (p := ⟨gb404, 1, none⟩) (by first | (rw [add_block]; exact hn405_1) | (show (Addr.add _ _).block ≠ _; rw [add_block]; exact hn405_1) | exact hn405_1) (.int .i64 ((rd_T62 l2_1 x48_2).f0.f1))).trans hx405_0; replace hx405_0 := (cell_far (p := ⟨gb404, 2, none⟩) (by first | (rw [add_block]; exact hn405_2) | (show (Addr.add _ _).block ≠ _; rw [add_block]; exact hn405_2) | exact hn405_2) (.bool ((rd_T62 l2_1 x48_2).f1))).trans hx405_0; (try have hy405_0 := fun (n_ : Nat) => (show (((((w34.drewN n_).setCell ⟨gb404, 0, none⟩ (.int .i64 ((rd_T62 l2_1 x48_2).f0.f0))).setCell ⟨gb404, 1, none⟩ (.int .i64 ((rd_T62 l2_1 x48_2).f0.f1))).setCell ⟨gb404, 2, none⟩ (.bool ((rd_T62 l2_1 x48_2).f1)))).cell? _ = some _ from hx405_0)); clear hn405_0; clear hn405_1; clear hn405_2; replace p405 := eq_true p405; replace q405 := eq_true q405; have p406 : 0 ≤ ((ji30) : Int) := sq_dec; have q406 : (ji30) < (t399.length : Int) := sq_dec; obtain ⟨ad406, e406, hx406_0⟩ := Kd.at_int (Kd.R_reads' HO_11.out).2.2 (ji30) p406 q406; obtain rfl : ad405 = ad406 := (by injection e406); have hn406_0 : ad405.block ≠ gb404 := Kd.own_blk (Kd.R_ne HO_11.out BK404.out (by decide)); have hn406_1 : ad405.block ≠ gb404 := Kd.own_blk (Kd.R_ne HO_11.out BK404.out (by decide)); have hn406_2 : ad405.block ≠ gb404 := Kd.own_blk (Kd.R_ne HO_11.out BK404.out (by decide)); replace hx406_0 := (cell_far (p := ⟨gb404, 0, none⟩) (by first | (rw [add_block]; exact hn406_0) | (show (Addr.add _ _).block ≠ _; rw [add_block]; exact hn406_0) | exact hn406_0) (.int .i64 ((rd_T62 l2_1 x48_2).f0.f0))).trans hx406_0; replace hx406_0 := (cell_far (p := ⟨gb404, 1, none⟩) (by first | (rw [add_block]; exact hn406_1) | (show (Addr.add _ _).block ≠ _; rw [add_block]; exact hn406_1) | exact hn406_1) (.int .i64 ((rd_T62 l2_1 x48_2).f0.f1))).trans hx406_0; replace hx406_0 := (cell_far (p := ⟨gb404, 2, none⟩) (by first | (rw [add_block]; exact hn406_2) | (show (Addr.add _ _).block ≠ _; rw [add_block]; exact hn406_2) | exact hn406_2) (.bool ((rd_T62 l2_1 x48_2).f1))).trans hx406_0; (try have hy406_0 := fun (n_ : Nat) => (show (((((w34.drewN n_).setCell ⟨gb404, 0, none⟩ (.int .i64 ((rd_T62 l2_1 x48_2).f0.f0))).setCell ⟨gb404, 1, none⟩ (.int .i64 ((rd_T62 l2_1 x48_2).f0.f1))).setCell ⟨gb404, 2, none⟩ (.bool ((rd_T62 l2_1 x48_2).f1)))).cell? _ = some _ from hx406_0)); clear hn406_0; clear hn406_1; clear hn406_2; replace p406 := eq_true p406; replace q406 := eq_true q406)))
             (try simp only [Act.put, List.setIfInBounds_toArray, List.set_cons_zero, List.set_cons_succ])
             go_cut [77] (fun v77 wc => ∃ (kq : Nat) (x77_32 : Bool), v77 = .bool x77_32 ∧ Aside0 (impl_SegHas.j2 kq l4 t399 (rd t399 x48_2) (rd t399 (ji30)) l2_1 (l2_1.length : Int) x48_2 x77_32 l2_0 l2_1 l2_2 ((rd_T62 l2_1 x48_2).f0.f0) ((rd_T62 l2_1 x48_2).f0.f1) ((rd_T62 l2_1 x48_2).f1) = some r) ∧ Aside0 (kq ≤ k2) ∧ Aside0 (Kd.R (Kd.int .i64) 3 wc w.heap.size (fun _ => True) (.slice (some ad405) t399.length co37) t399) ∧ Aside0 (wc.heap[gb395]? = some (.cells #[(.slice A2_0 l2_0.length c2_0), (.slice (some ad403) l2_1.length c2_1), (.slice A2_2 l2_2.length c2_2)] 32 (0, 0))) ∧ Aside0 (wc.heap[gb404]? = some (.cells #[.int .i64 ((rd_T62 l2_1 x48_2).f0.f0), .int .i64 ((rd_T62 l2_1 x48_2).f0.f1), .bool ((rd_T62 l2_1 x48_2).f1)] 62 (0, 0))) ∧ Aside0 (Below w.heap.size w wc))
             case first =>
              have H := HC33.out; clear HC33
              by_cases c38 : (rd t399 x48_2) > (rd t399 (ji30))
              ·
               rw [if_pos c38] at H; have c38b0 : decide ((rd t399 (ji30)) < (rd t399 x48_2)) = true := decide_eq_true c38; clear c38
               (first | rw [c38b0] | (simp only [i64_w, i32_w]; rw [c38b0]) | skip)
               have H' := Aside0.mk H; clear H
               go_wp2
               repeat (go_quiet (fail); try go_wp2)
               go_meet
               case rel => exact ⟨_, (true), (by first | rfl | (simp; done) | (simp [*]; done)), (by first | exact H' | (rw [hji30]; exact H')), ⟨by have := HJ5.out; have := HK2.out; first | omega | exact Nat.le_refl _⟩, ⟨by (with_reducible repeat (first | apply Kd.R_alloc | apply Kd.R_drewN | apply Kd.R_drew)); exact Kd.R_mono (Kd.R_far (p := ⟨gb404, 2, none⟩) (Kd.R_far (p := ⟨gb404, 1, none⟩) (Kd.R_far (p := ⟨gb404, 0, none⟩) (Kd.R_types HO_11.out BK404.out (by decide)) (fun _ hk => hk.2) (.int .i64 ((rd_T62 l2_1 x48_2).f0.f0))) (fun _ hk => hk.2) (.int .i64 ((rd_T62 l2_1 x48_2).f0.f1))) (fun _ hk => hk.2) (.bool ((rd_T62 l2_1 x48_2).f1))) (fun _ hk => trivial)⟩, bf_ BK395 NB395_404, ⟨by (with_reducible repeat (first | refine blk_drewN ?_ _ | refine blk_drew ?_ | refine blk_alloc ?_ _)); refine blk_put (cs := #[.int .i64 ((rd_T62 l2_1 x48_2).f0.f0), .int .i64 ((rd_T62 l2_1 x48_2).f0.f1), .bool false]) ?_ 2 _ rfl; (with_reducible repeat (first | refine blk_drewN ?_ _ | refine blk_drew ?_ | refine blk_alloc ?_ _)); refine blk_put (cs := #[.int .i64 ((rd_T62 l2_1 x48_2).f0.f0), .int .i64 0, .bool false]) ?_ 1 _ rfl; (with_reducible repeat (first | refine blk_drewN ?_ _ | refine blk_drew ?_ | refine blk_alloc ?_ _)); refine blk_put (cs := #[.int .i64 0, .int .i64 0, .bool false]) ?_ 0 _ rfl; (with_reducible repeat (first | refine blk_drewN ?_ _ | refine blk_drew ?_ | refine blk_alloc ?_ _)); exact BK404.out⟩, ⟨sq_below2 HB.out GE395.out GE404.out⟩⟩
              ·
               rw [if_neg c38] at H; have c38b0 : decide ((rd t399 (ji30)) < (rd t399 x48_2)) = false := decide_eq_false c38; clear c38
               (first | rw [c38b0] | (simp only [i64_w, i32_w]; rw [c38b0]) | skip)
               by_cases c39 : (rd t399 x48_2) = (rd t399 (ji30))
               ·
                rw [if_pos c39] at H; have c39b0 : ((rd t399 x48_2) == (rd t399 (ji30))) = true := beq_iff_eq.mpr c39; have c39b1 : ((rd t399 x48_2) != (rd t399 (ji30))) = false := bne_eq_false_iff_eq.mpr c39; clear c39
                by_cases c40 : x48_2 < (l2_2.length : Int)
                ·
                 rw [if_pos c40] at H; have c40b0 : decide (x48_2 < (l2_2.length : Int)) = true := decide_eq_true c40; clear c40; have H' := Aside0.mk H; clear H; have hnb41 := NB395_404.out; have hnc41 := NB404_395.out; have hcz42_0 := cl_ (v := .slice A2_0 l2_0.length c2_0) BK395 0; have hcz42_1 := cl_ (v := .slice (some ad403) l2_1.length c2_1) BK395 1; have hcz42_2 := cl_ (v := .slice A2_2 l2_2.length c2_2) BK395 2; have hfz42_0 := blk_frozen BK395.out 0; have hfz42_1 := blk_frozen BK395.out 1; have hfz42_2 := blk_frozen BK395.out 2; have p407 : 0 ≤ (x48_2 : Int) := sq_dec; have q407 : x48_2 < (l2_2.length : Int) := sq_dec; obtain ⟨ad407, e407, hx407_0⟩ := Kd.at_bool HR2_2.out x48_2 p407 q407; cases e407; have hn407_0 : ad407.block ≠ gb404 := Nat.ne_of_lt (Nat.lt_of_lt_of_le (by have := World.block_lt_of_cell? _ _ hx407_0; first | rwa [add_block] at this | exact this) GW404.out); have hn407_1 : ad407.block ≠ gb404 := Nat.ne_of_lt (Nat.lt_of_lt_of_le (by have := World.block_lt_of_cell? _ _ hx407_0; first | rwa [add_block] at this | exact this) GW404.out); have hn407_2 : ad407.block ≠ gb404 := Nat.ne_of_lt (Nat.lt_of_lt_of_le (by have := World.block_lt_of_cell? _ _ hx407_0; first | rwa [add_block] at this | exact this) GW404.out); replace hx407_0 := (HB.out.cell (World.block_lt_of_cell? w _ hx407_0)).trans hx407_0; replace hx407_0 := (cell_far (p := ⟨gb404, 0, none⟩) (by first | (rw [add_block]; exact hn407_0) | (show (Addr.add _ _).block ≠ _; rw [add_block]; exact hn407_0) | exact hn407_0) (.int .i64 ((rd_T62 l2_1 x48_2).f0.f0))).trans hx407_0; replace hx407_0 := (cell_far (p := ⟨gb404, 1, none⟩) (by first | (rw [add_block]; exact hn407_1) | (show (Addr.add _ _).block ≠ _; rw [add_block]; exact hn407_1) | exact hn407_1) (.int .i64 ((rd_T62 l2_1 x48_2).f0.f1))).trans hx407_0; replace hx407_0 := (cell_far (p := ⟨gb404, 2, none⟩) (by first | (rw [add_block]; exact hn407_2) | (show (Addr.add _ _).block ≠ _; rw [add_block]; exact hn407_2) | exact hn407_2) (.bool ((rd_T62 l2_1 x48_2).f1))).trans hx407_0
                 (try have hy407_0 := fun (n_ : Nat) => (show (((((w34.drewN n_).setCell ⟨gb404, 0, none⟩ (.int .i64 ((rd_T62 l2_1 x48_2).f0.f0))).setCell ⟨gb404, 1, none⟩ (.int .i64 ((rd_T62 l2_1 x48_2).f0.f1))).setCell ⟨gb404, 2, none⟩ (.bool ((rd_T62 l2_1 x48_2).f1)))).cell? _ = some _ from hx407_0))
                 clear hn407_0 hn407_1 hn407_2; replace p407 := eq_true p407; replace q407 := eq_true q407
                 go_wp2
                 repeat (go_quiet (fail); try go_wp2)
                 go_meet
                 case rel => exact ⟨_, (!(rdOf false l2_2 x48_2)), (by first | rfl | (simp; done) | (simp [*]; done)), (by first | exact H' | (rw [hji30]; exact H')), ⟨by have := HJ5.out; have := HK2.out; first | omega | exact Nat.le_refl _⟩, ⟨by (with_reducible repeat (first | apply Kd.R_alloc | apply Kd.R_drewN | apply Kd.R_drew)); exact Kd.R_mono (Kd.R_far (p := ⟨gb404, 2, none⟩) (Kd.R_far (p := ⟨gb404, 1, none⟩) (Kd.R_far (p := ⟨gb404, 0, none⟩) (Kd.R_types HO_11.out BK404.out (by decide)) (fun _ hk => hk.2) (.int .i64 ((rd_T62 l2_1 x48_2).f0.f0))) (fun _ hk => hk.2) (.int .i64 ((rd_T62 l2_1 x48_2).f0.f1))) (fun _ hk => hk.2) (.bool ((rd_T62 l2_1 x48_2).f1))) (fun _ hk => trivial)⟩, bf_ BK395 NB395_404, ⟨by (with_reducible repeat (first | refine blk_drewN ?_ _ | refine blk_drew ?_ | refine blk_alloc ?_ _)); refine blk_put (cs := #[.int .i64 ((rd_T62 l2_1 x48_2).f0.f0), .int .i64 ((rd_T62 l2_1 x48_2).f0.f1), .bool false]) ?_ 2 _ rfl; (with_reducible repeat (first | refine blk_drewN ?_ _ | refine blk_drew ?_ | refine blk_alloc ?_ _)); refine blk_put (cs := #[.int .i64 ((rd_T62 l2_1 x48_2).f0.f0), .int .i64 0, .bool false]) ?_ 1 _ rfl; (with_reducible repeat (first | refine blk_drewN ?_ _ | refine blk_drew ?_ | refine blk_alloc ?_ _)); refine blk_put (cs := #[.int .i64 0, .int .i64 0, .bool false]) ?_ 0 _ rfl; (with_reducible repeat (first | refine blk_drewN ?_ _ | refine blk_drew ?_ | refine blk_alloc ?_ _)); exact BK404.out⟩, ⟨sq_below2 HB.out GE395.out GE404.out⟩⟩
                ·
                 rw [if_neg c40] at H; exact absurd H (by simp)
               ·
                rw [if_neg c39] at H; have c39b0 : ((rd t399 x48_2) == (rd t399 (ji30))) = false := beq_eq_false_iff_ne.mpr c39; have c39b1 : ((rd t399 x48_2) != (rd t399 (ji30))) = true := bne_iff_ne.mpr c39; have H' := Aside0.mk H; clear H
                go_wp2
                repeat (go_quiet (fail); try go_wp2)
                go_meet
                case rel => exact ⟨_, (false), (by first | rfl | (simp; done) | (simp [*]; done)), (by first | exact H' | (rw [hji30]; exact H')), ⟨by have := HJ5.out; have := HK2.out; first | omega | exact Nat.le_refl _⟩, ⟨by (with_reducible repeat (first | apply Kd.R_alloc | apply Kd.R_drewN | apply Kd.R_drew)); exact Kd.R_mono (Kd.R_far (p := ⟨gb404, 2, none⟩) (Kd.R_far (p := ⟨gb404, 1, none⟩) (Kd.R_far (p := ⟨gb404, 0, none⟩) (Kd.R_types HO_11.out BK404.out (by decide)) (fun _ hk => hk.2) (.int .i64 ((rd_T62 l2_1 x48_2).f0.f0))) (fun _ hk => hk.2) (.int .i64 ((rd_T62 l2_1 x48_2).f0.f1))) (fun _ hk => hk.2) (.bool ((rd_T62 l2_1 x48_2).f1))) (fun _ hk => trivial)⟩, bf_ BK395 NB395_404, ⟨by (with_reducible repeat (first | refine blk_drewN ?_ _ | refine blk_drew ?_ | refine blk_alloc ?_ _)); refine blk_put (cs := #[.int .i64 ((rd_T62 l2_1 x48_2).f0.f0), .int .i64 ((rd_T62 l2_1 x48_2).f0.f1), .bool false]) ?_ 2 _ rfl; (with_reducible repeat (first | refine blk_drewN ?_ _ | refine blk_drew ?_ | refine blk_alloc ?_ _)); refine blk_put (cs := #[.int .i64 ((rd_T62 l2_1 x48_2).f0.f0), .int .i64 0, .bool false]) ?_ 1 _ rfl; (with_reducible repeat (first | refine blk_drewN ?_ _ | refine blk_drew ?_ | refine blk_alloc ?_ _)); refine blk_put (cs := #[.int .i64 0, .int .i64 0, .bool false]) ?_ 0 _ rfl; (with_reducible repeat (first | refine blk_drewN ?_ _ | refine blk_drew ?_ | refine blk_alloc ?_ _)); exact BK404.out⟩, ⟨sq_below2 HB.out GE395.out GE404.out⟩⟩
             case rest =>
              clear HC33
              try clear c1
              try clear c2
              try clear p2
              try clear c3
              try clear p3
              try clear q3
              try clear hx3
              try clear c4
              try clear p4
              try clear q4
              try clear hx4
              try clear p6
              try clear c9
              try clear c11
              try clear c12
              try clear c12b0
              try clear c13
              try clear c13b0
              try clear c15
              try clear c20
              try clear c22
              try clear c26
              try clear c26b0
              try clear c27
              try clear c27b0
              try clear c28
              try clear c28b0
              try clear c29
              try clear c29b0
              try clear c31
              try clear c31b0
              try clear c32
              try clear c32b0
              try clear c35
              try clear c38
              try clear c38b0
              try clear c39
              try clear c39b0
              try clear c39b1
              try clear p39
              try clear q39
              try clear hx39
              try clear c40
              try clear c40b0
              try clear p40
              try clear q40
              try clear hx40
              try clear c41
              try clear hcz14_0
              try clear hcz14_1
              try clear hcz14_2
              try clear hcz16_0
              try clear hcz16_1
              try clear hcz16_2
              try clear hcz18_0
              try clear hcz18_1
              try clear hcz18_2
              try clear hcz23_0
              try clear hcz23_1
              try clear hcz23_2
              try clear hcz25_0
              try clear hcz25_1
              try clear hcz25_2
              try clear hcz36_0
              try clear hcz36_1
              try clear hcz36_2
              try clear hcz42_0
              try clear hcz42_1
              try clear hcz42_2
              try clear hfz14_0
              try clear hfz14_1
              try clear hfz14_2
              try clear hfz16_0
              try clear hfz16_1
              try clear hfz16_2
              try clear hfz18_0
              try clear hfz18_1
              try clear hfz18_2
              try clear hfz23_0
              try clear hfz23_1
              try clear hfz23_2
              try clear hfz25_0
              try clear hfz25_1
              try clear hfz25_2
              try clear hfz36_0
              try clear hfz36_1
              try clear hfz36_2
              try clear hfz42_0
              try clear hfz42_1
              try clear hfz42_2
              try clear hx398_0
              try clear hx403_0
              try clear hx403_1
              try clear hx403_2
              try clear hx405_0
              try clear hx406_0
              try clear hx407_0
              try clear p2
              try clear p3
              try clear p398
              try clear p403
              try clear p405
              try clear p406
              try clear p407
              try clear q3
              try clear q398
              try clear q403
              try clear q405
              try clear q406
              try clear q407
              obtain ⟨kq, x77_32, rfl, HA, HJ32, HO_11, BK395, BK404, HB⟩ := hcut; cases kq with
              | zero => exact absurd HA.out (by simp [impl_SegHas.j2])
              | succ kj32 =>
               have H := HA.out; clear HA; simp only [impl_SegHas.j2] at H
               by_cases c43 : x77_32 = true
               ·
                subst c43; have H1 := ifp_ H
                clear H; have H := H1; clear H1; obtain rfl := Option.some.inj H
                go_wp2
                repeat (go_quiet (fail); try go_wp2)
                go_ret
                exact ⟨by first | rfl | (simp [errW_none, errW_some] <;> rfl) | (simp only [← hji30]; first | rfl | (simp [errW_none, errW_some] <;> rfl)) | (simp [*, errW_none, errW_some] <;> rfl), sq_below2 HB.out GE395.out GE404.out⟩
               ·
                replace c43 := Bool.eq_false_iff.mpr c43; subst c43; have H1 := ifn_ H
                clear H; have H := H1; clear H1
                by_cases c44 : (rd t399 x48_2) < 0
                ·
                 rw [if_pos c44] at H; have c44b0 : decide ((rd t399 x48_2) < 0) = true := decide_eq_true c44; clear c44; obtain rfl := Option.some.inj H
                 go_wp2
                 repeat (go_quiet (fail); try go_wp2)
                 go_ret
                 exact ⟨by first | rfl | (simp [errW_none, errW_some] <;> rfl) | (simp only [← hji30]; first | rfl | (simp [errW_none, errW_some] <;> rfl)) | (simp [*, errW_none, errW_some] <;> rfl), sq_below2 HB.out GE395.out GE404.out⟩
                ·
                 rw [if_neg c44] at H; have c44b0 : decide ((rd t399 x48_2) < 0) = false := decide_eq_false c44; clear c44
                 by_cases c45 : (rd t399 (ji30)) > (l4.length : Int)
                 ·
                  rw [if_pos c45] at H; have c45b0 : decide ((l4.length : Int) < (rd t399 (ji30))) = true := decide_eq_true c45; clear c45; obtain rfl := Option.some.inj H
                  go_wp2
                  repeat (go_quiet (fail); try go_wp2)
                  go_ret
                  exact ⟨by first | rfl | (simp [errW_none, errW_some] <;> rfl) | (simp only [← hji30]; first | rfl | (simp [errW_none, errW_some] <;> rfl)) | (simp [*, errW_none, errW_some] <;> rfl), sq_below2 HB.out GE395.out GE404.out⟩
                 ·
                  rw [if_neg c45] at H; have c45b0 : decide ((l4.length : Int) < (rd t399 (ji30))) = false := decide_eq_false c45; clear c45
                  by_cases c46 : 0 ≤ (rd t399 x48_2)
                  ·
                   rw [if_pos c46] at H; have c46b0 := eq_true c46; have c46b1 : decide (0 ≤ (rd t399 x48_2)) = true := decide_eq_true c46; clear c46
                   by_cases c47 : (rd t399 x48_2) ≤ (rd t399 (ji30))
                   ·
                    rw [if_pos c47] at H; have c47b0 := eq_true c47; have c47b1 : decide ((rd t399 x48_2) ≤ (rd t399 (ji30))) = true := decide_eq_true c47; clear c47
                    by_cases c48 : (rd t399 (ji30)) ≤ (l4.length : Int)
                    ·
                     rw [if_pos c48] at H; have c48b0 := eq_true c48; have c48b1 : decide ((rd t399 (ji30)) ≤ (l4.length : Int)) = true := decide_eq_true c48; clear c48; obtain ⟨y408, hy408⟩ : ∃ y_ : List (S77), y_ = ((l4.take ((rd t399 (ji30)) : Int).toNat).drop ((rd t399 x48_2) : Int).toNat) := ⟨_, rfl⟩; replace H : ((impl_Cell.f y408 ((rd_T62 l2_1 x48_2).f0.f0) ((rd_T62 l2_1 x48_2).f0.f1) ((rd_T62 l2_1 x48_2).f1)).bind fun t412 => (if t412 = true then (some false) else (impl_SegHas.l0 kj32 l4 t399 l2_1 (l2_1.length : Int) (wrap64 (x48_2 + 1)) l2_0 l2_1 l2_2))) = some r := by first | (rw [hy408]; with_reducible exact H) | (have H2_ := (Option.bind_some _ _).symm.trans H; rw [hy408]; with_reducible exact H2_) | (have H2_ := (Option.bind_some _ _).symm.trans H; with_reducible exact H2_) | with_reducible exact H | (rw [hy408]; exact H) | exact H
                     have Ny408 := Aside0.mk hy408; clear hy408; replace H := Option.bind_eq_some_iff.mp H; obtain ⟨t412, A490, H⟩ := H; (try dsimp only at H); have A49 := Aside0.mk A490; clear A490
                     by_cases c50 : t412 = true
                     ·
                      subst c50; have H1 := ifp_ H
                      clear H; have H := H1; clear H1; obtain rfl := Option.some.inj H; have q51 : ((rd t399 (ji30)) : Int) ≤ ((l4.length : Int) : Int) := sq_dec; obtain ⟨i051, hi051, _, hsz51, _⟩ := info_parts info77; have hroom51 : l4.length ≤ c4 := HC4.out; have hC51 : Kd.C k77 _ A4 l4.length l4 := HR4.out; have ql51 : ((rd t399 x48_2) : Int) ≤ ((rd t399 (ji30)) : Int) := sq_dec; have q051 : (0 : Int) ≤ ((rd t399 x48_2) : Int) := sq_dec; have hcut51 := cut_mid (P := Tryd.prog) 41 77 .i64 .i64 Tryd.underlying41 hi051 2 hsz51 A4 l4.length c4 (rd t399 x48_2) (rd t399 (ji30)) q051 ql51 q51 hroom51; have hr51 := Kd.C_mid (lo := ((rd t399 x48_2) : Int).toNat) (hi := ((rd t399 (ji30)) : Int).toNat) (c := c4) hC51 (by omega) (by omega) hroom51; obtain ⟨A51, hA51⟩ : ∃ A1, A1 = (if c4 = ((rd t399 x48_2) : Int).toNat then A4 else (A4 : Option Addr).map (·.add (((rd t399 x48_2) : Int).toNat * 2))) := ⟨_, rfl⟩; obtain ⟨c51, hc51⟩ : ∃ c1, c1 = c4 - ((rd t399 x48_2) : Int).toNat := ⟨_, rfl⟩; have hy51 : y408.length = ((rd t399 (ji30)) : Int).toNat - ((rd t399 x48_2) : Int).toNat := (by rw [Ny408.out, List.length_drop, List.length_take] <;> omega); rw [show ((l4).take ((rd t399 (ji30)) : Int).toNat).drop ((rd t399 x48_2) : Int).toNat = y408 from Ny408.out.symm] at hr51; replace hr51 : Kd.C k77 _ A51 y408.length y408 := (by rw [hA51]; exact hr51); rw [← hy51, ← hA51, ← hc51] at hcut51; have HR411 := Aside0.mk hr51; have HC411 := Aside0.mk (show y408.length ≤ c51 from by rw [hy51, hc51]; exact Nat.sub_le_sub_right (Nat.le_trans (by omega) hroom51) _); clear hr51 hC51 hroom51 hi051 hsz51 hc51; have KY51 := Aside0.mk hy51; have KA51 := Aside0.mk hA51; clear hy51 hA51; replace q51 := eq_true q51
                      go_wp2_with (first | (go_at_call 48; (with_reducible refine (impl_Cell.calls _ _ y408 gb404 ((rd_T62 l2_1 x48_2).f0.f0) ((rd_T62 l2_1 x48_2).f0.f1) ((rd_T62 l2_1 x48_2).f1) true _ ?side4 ?side1 ?side2 ?side3 A49.out).mono ?_); (case side1 => exact sq_c (Kd.C_below HR411.out HB.out)); (case side2 => exact HC411.out); (case side3 => exact by (with_reducible repeat (first | refine blk_drewN ?_ _ | refine blk_drew ?_ | refine blk_alloc ?_ _)); exact BK404.out); (case side4 => exact GL0.below HG0.out (sq_below1 HB.out GE404.out)); rintro e w52 ⟨rfl, hb⟩; replace HO_11 := Aside0.mk (Kd.R_below (sq_row HO_11.out) hb); replace BK404 := bb_ BK404 hb; replace HB := hb1_ HB hb GE404; (try clear hb)))
                      repeat (go_quiet (first | (go_at_call 48; (with_reducible refine (impl_Cell.calls _ _ y408 gb404 ((rd_T62 l2_1 x48_2).f0.f0) ((rd_T62 l2_1 x48_2).f0.f1) ((rd_T62 l2_1 x48_2).f1) true _ ?side4 ?side1 ?side2 ?side3 A49.out).mono ?_); (case side1 => exact sq_c (Kd.C_below HR411.out HB.out)); (case side2 => exact HC411.out); (case side3 => exact by (with_reducible repeat (first | refine blk_drewN ?_ _ | refine blk_drew ?_ | refine blk_alloc ?_ _)); exact BK404.out); (case side4 => exact GL0.below HG0.out (sq_below1 HB.out GE404.out)); rintro e w52 ⟨rfl, hb⟩; replace HO_11 := Aside0.mk (Kd.R_below (sq_row HO_11.out) hb); replace BK404 := bb_ BK404 hb; replace HB := hb1_ HB hb GE404; (try clear hb))); try go_wp2_with (first | (go_at_call 48; (with_reducible refine (impl_Cell.calls _ _ y408 gb404 ((rd_T62 l2_1 x48_2).f0.f0) ((rd_T62 l2_1 x48_2).f0.f1) ((rd_T62 l2_1 x48_2).f1) true _ ?side4 ?side1 ?side2 ?side3 A49.out).mono ?_); (case side1 => exact sq_c (Kd.C_below HR411.out HB.out)); (case side2 => exact HC411.out); (case side3 => exact by (with_reducible repeat (first | refine blk_drewN ?_ _ | refine blk_drew ?_ | refine blk_alloc ?_ _)); exact BK404.out); (case side4 => exact GL0.below HG0.out (sq_below1 HB.out GE404.out)); rintro e w52 ⟨rfl, hb⟩; replace HO_11 := Aside0.mk (Kd.R_below (sq_row HO_11.out) hb); replace BK404 := bb_ BK404 hb; replace HB := hb1_ HB hb GE404; (try clear hb))))
                      go_ret
                      exact ⟨by first | rfl | (simp [errW_none, errW_some] <;> rfl) | (simp only [← hji30]; first | rfl | (simp [errW_none, errW_some] <;> rfl)) | (simp [*, errW_none, errW_some] <;> rfl), sq_below1 HB.out GE404.out⟩
                     ·
                      replace c50 := Bool.eq_false_iff.mpr c50; subst c50; have H1 := ifn_ H
                      clear H; have H := H1; clear H1; have H' := Aside0.mk H; clear H; have q53 : ((rd t399 (ji30)) : Int) ≤ ((l4.length : Int) : Int) := sq_dec; obtain ⟨i053, hi053, _, hsz53, _⟩ := info_parts info77; have hroom53 : l4.length ≤ c4 := HC4.out; have hC53 : Kd.C k77 _ A4 l4.length l4 := HR4.out; have ql53 : ((rd t399 x48_2) : Int) ≤ ((rd t399 (ji30)) : Int) := sq_dec; have q053 : (0 : Int) ≤ ((rd t399 x48_2) : Int) := sq_dec; have hcut53 := cut_mid (P := Tryd.prog) 41 77 .i64 .i64 Tryd.underlying41 hi053 2 hsz53 A4 l4.length c4 (rd t399 x48_2) (rd t399 (ji30)) q053 ql53 q53 hroom53; have hr53 := Kd.C_mid (lo := ((rd t399 x48_2) : Int).toNat) (hi := ((rd t399 (ji30)) : Int).toNat) (c := c4) hC53 (by omega) (by omega) hroom53; obtain ⟨A53, hA53⟩ : ∃ A1, A1 = (if c4 = ((rd t399 x48_2) : Int).toNat then A4 else (A4 : Option Addr).map (·.add (((rd t399 x48_2) : Int).toNat * 2))) := ⟨_, rfl⟩; obtain ⟨c53, hc53⟩ : ∃ c1, c1 = c4 - ((rd t399 x48_2) : Int).toNat := ⟨_, rfl⟩; have hy53 : y408.length = ((rd t399 (ji30)) : Int).toNat - ((rd t399 x48_2) : Int).toNat := (by rw [Ny408.out, List.length_drop, List.length_take] <;> omega); rw [show ((l4).take ((rd t399 (ji30)) : Int).toNat).drop ((rd t399 x48_2) : Int).toNat = y408 from Ny408.out.symm] at hr53; replace hr53 : Kd.C k77 _ A53 y408.length y408 := (by rw [hA53]; exact hr53); rw [← hy53, ← hA53, ← hc53] at hcut53; have HR411 := Aside0.mk hr53; have HC411 := Aside0.mk (show y408.length ≤ c53 from by rw [hy53, hc53]; exact Nat.sub_le_sub_right (Nat.le_trans (by omega) hroom53) _); clear hr53 hC53 hroom53 hi053 hsz53 hc53; have KY53 := Aside0.mk hy53; have KA53 := Aside0.mk hA53; clear hy53 hA53; replace q53 := eq_true q53
                      go_wp2_with (first | (go_at_call 48; (with_reducible refine (impl_Cell.calls _ _ y408 gb404 ((rd_T62 l2_1 x48_2).f0.f0) ((rd_T62 l2_1 x48_2).f0.f1) ((rd_T62 l2_1 x48_2).f1) false _ ?side4 ?side1 ?side2 ?side3 A49.out).mono ?_); (case side1 => exact sq_c (Kd.C_below HR411.out HB.out)); (case side2 => exact HC411.out); (case side3 => exact by (with_reducible repeat (first | refine blk_drewN ?_ _ | refine blk_drew ?_ | refine blk_alloc ?_ _)); exact BK404.out); (case side4 => exact GL0.below HG0.out (sq_below2 HB.out GE395.out GE404.out)); rintro e w54 ⟨rfl, hb⟩; replace HO_11 := Aside0.mk (Kd.R_below (sq_row HO_11.out) hb); replace BK395 := bb_ BK395 hb; replace BK404 := bb_ BK404 hb; replace HB := hb2_ HB hb GE395 GE404; (try clear hb)))
                      repeat (go_quiet (first | (go_at_call 48; (with_reducible refine (impl_Cell.calls _ _ y408 gb404 ((rd_T62 l2_1 x48_2).f0.f0) ((rd_T62 l2_1 x48_2).f0.f1) ((rd_T62 l2_1 x48_2).f1) false _ ?side4 ?side1 ?side2 ?side3 A49.out).mono ?_); (case side1 => exact sq_c (Kd.C_below HR411.out HB.out)); (case side2 => exact HC411.out); (case side3 => exact by (with_reducible repeat (first | refine blk_drewN ?_ _ | refine blk_drew ?_ | refine blk_alloc ?_ _)); exact BK404.out); (case side4 => exact GL0.below HG0.out (sq_below2 HB.out GE395.out GE404.out)); rintro e w54 ⟨rfl, hb⟩; replace HO_11 := Aside0.mk (Kd.R_below (sq_row HO_11.out) hb); replace BK395 := bb_ BK395 hb; replace BK404 := bb_ BK404 hb; replace HB := hb2_ HB hb GE395 GE404; (try clear hb))); try go_wp2_with (first | (go_at_call 48; (with_reducible refine (impl_Cell.calls _ _ y408 gb404 ((rd_T62 l2_1 x48_2).f0.f0) ((rd_T62 l2_1 x48_2).f0.f1) ((rd_T62 l2_1 x48_2).f1) false _ ?side4 ?side1 ?side2 ?side3 A49.out).mono ?_); (case side1 => exact sq_c (Kd.C_below HR411.out HB.out)); (case side2 => exact HC411.out); (case side3 => exact by (with_reducible repeat (first | refine blk_drewN ?_ _ | refine blk_drew ?_ | refine blk_alloc ?_ _)); exact BK404.out); (case side4 => exact GL0.below HG0.out (sq_below2 HB.out GE395.out GE404.out)); rintro e w54 ⟨rfl, hb⟩; replace HO_11 := Aside0.mk (Kd.R_below (sq_row HO_11.out) hb); replace BK395 := bb_ BK395 hb; replace BK404 := bb_ BK404 hb; replace HB := hb2_ HB hb GE395 GE404; (try clear hb))))
                      go_roundg kj32
                      case measure => have := HJ5.out; have := HK2.out; have := HJ32.out; omega
                      case rel => exact ⟨(wrap64 (x48_2 + 1)), (by first | rfl | (simp; done) | (simp [*]; done)), H', ⟨by have := HJ5.out; have := HK2.out; have := HJ32.out; omega⟩, ⟨by (with_reducible repeat (first | apply Kd.R_alloc | apply Kd.R_drewN | apply Kd.R_drew)); exact HO_11.out⟩, bk_ BK395, ⟨sq_below2 HB.out GE395.out GE404.out⟩⟩
                    ·
                     rw [if_neg c48] at H; exact absurd H (by simp)
                   ·
                    rw [if_neg c47] at H; exact absurd H (by simp)
                  ·
                   rw [if_neg c46] at H; exact absurd H (by simp)
            ·
             rw [if_neg c32] at H; exact absurd H (by simp)
           ·
            rw [if_neg c31] at H; exact absurd H (by simp)
          ·
           rw [if_neg c29] at H; exact absurd H (by simp)
         ·
          rw [if_neg c28] at H; exact absurd H (by simp)
        ·
         rw [if_neg c27] at H; exact absurd H (by simp)
       ·
        rw [if_neg c26] at H; have c26b0 : decide (x48_2 < (l2_1.length : Int)) = false := decide_eq_false c26; clear c26; obtain rfl := Option.some.inj H
        go_wp2
        repeat (go_quiet (fail); try go_wp2)
        go_ret
        exact ⟨by first | rfl | (simp [errW_none, errW_some] <;> rfl) | (simp [*, errW_none, errW_some] <;> rfl), sq_below1 HB.out GE395.out⟩
    ·
     replace c22 := Bool.eq_false_iff.mpr c22; subst c22; have H1 := ifn_ H
     clear H; have H := H1; clear H1; obtain rfl := Option.some.inj H; have hcz55_0 := cl_ (v := .slice A2_0 l2_0.length c2_0) BK395 0; have hcz55_1 := cl_ (v := .slice A2_1 l2_1.length c2_1) BK395 1; have hcz55_2 := cl_ (v := .slice A2_2 l2_2.length c2_2) BK395 2; have hfz55_0 := blk_frozen BK395.out 0; have hfz55_1 := blk_frozen BK395.out 1; have hfz55_2 := blk_frozen BK395.out 2
     go_wp2_with (first | (go_at_call 47; (with_reducible refine (impl_Seg_numbersOf.calls kj5 _ _ l2_0 _ _ l2_1 _ _ l2_2 _ _ l3 t399 false _ ?side1 ?side2 ?side3 ?side4 ?side5 ?side6 ?side7 ?side8 A21.out).mono ?_); (case side1 => exact sq_c (Kd.C_below HR2_0.out HB.out)); (case side2 => exact HC2_0.out); (case side3 => exact sq_c (Kd.C_below HR2_1.out HB.out)); (case side4 => exact HC2_1.out); (case side5 => exact sq_c (Kd.C_below HR2_2.out HB.out)); (case side6 => exact HC2_2.out); (case side7 => exact sq_c (Kd.C_below HR3.out HB.out)); (case side8 => exact HC3.out); rintro e w56 ⟨v400, rfl, ho0, hb⟩; have n0_ := Aside0.mk (Kd.R_lower ho0 (below_size (sq_below HB.out))); have n1_ := Aside0.mk (below_step (sq_below HB.out) hb); clear HB; have HO401 := n0_; have HB := n1_; clear n0_ n1_; (try clear hb); (try clear ho0)))
     repeat (go_quiet (first | (go_at_call 47; (with_reducible refine (impl_Seg_numbersOf.calls kj5 _ _ l2_0 _ _ l2_1 _ _ l2_2 _ _ l3 t399 false _ ?side1 ?side2 ?side3 ?side4 ?side5 ?side6 ?side7 ?side8 A21.out).mono ?_); (case side1 => exact sq_c (Kd.C_below HR2_0.out HB.out)); (case side2 => exact HC2_0.out); (case side3 => exact sq_c (Kd.C_below HR2_1.out HB.out)); (case side4 => exact HC2_1.out); (case side5 => exact sq_c (Kd.C_below HR2_2.out HB.out)); (case side6 => exact HC2_2.out); (case side7 => exact sq_c (Kd.C_below HR3.out HB.out)); (case side8 => exact HC3.out); rintro e w56 ⟨v400, rfl, ho0, hb⟩; have n0_ := Aside0.mk (Kd.R_lower ho0 (below_size (sq_below HB.out))); have n1_ := Aside0.mk (below_step (sq_below HB.out) hb); clear HB; have HO401 := n0_; have HB := n1_; clear n0_ n1_; (try clear hb); (try clear ho0))); try go_wp2_with (first | (go_at_call 47; (with_reducible refine (impl_Seg_numbersOf.calls kj5 _ _ l2_0 _ _ l2_1 _ _ l2_2 _ _ l3 t399 false _ ?side1 ?side2 ?side3 ?side4 ?side5 ?side6 ?side7 ?side8 A21.out).mono ?_); (case side1 => exact sq_c (Kd.C_below HR2_0.out HB.out)); (case side2 => exact HC2_0.out); (case side3 => exact sq_c (Kd.C_below HR2_1.out HB.out)); (case side4 => exact HC2_1.out); (case side5 => exact sq_c (Kd.C_below HR2_2.out HB.out)); (case side6 => exact HC2_2.out); (case side7 => exact sq_c (Kd.C_below HR3.out HB.out)); (case side8 => exact HC3.out); rintro e w56 ⟨v400, rfl, ho0, hb⟩; have n0_ := Aside0.mk (Kd.R_lower ho0 (below_size (sq_below HB.out))); have n1_ := Aside0.mk (below_step (sq_below HB.out) hb); clear HB; have HO401 := n0_; have HB := n1_; clear n0_ n1_; (try clear hb); (try clear ho0))))
     go_ret
     exact ⟨by first | rfl | (simp [errW_none, errW_some] <;> rfl) | (simp [*, errW_none, errW_some] <;> rfl), sq_below HB.out⟩

end Go.Proofs.YtfeloencepgdlaaDoor.Q
