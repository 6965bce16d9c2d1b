/- Functions of the translation as Lean functions, each with a proof that a call answers so; out of the seat, by this claim's own program prt.py. -/
import Derived.Test.YtfeloencepgdlaaDoorWTab
import Derived.Test.YtfeloencepgdlaaDoorWRepsOne
import Derived.Test.YtfeloencepgdlaaDoorQx0
import Derived.Test.YtfeloencepgdlaaDoorQStep
namespace Go.Proofs.YtfeloencepgdlaaDoor.Q
open Go.RowKit Go.Proofs.YtfeloencepgdlaaDoorW.PrintWords Go.Proofs.YtfeloencepgdlaaDoorW.PrintLast Go.Proofs.YtfeloencepgdlaaDoorW.PrintMore
attribute [local go_sem] max2_int min2_int max_two min_two max_three min_three max_four min_four   -- for this text's walks alone
set_option linter.unusedVariables false
set_option linter.unusedSimpArgs false

/-! ### impl_Seg_numbersOf: function 47 -/
abbrev impl_Seg_numbersOf.b0_ : Array Bool := #[false, false, false, false, false, false, false, false, false, false, false, false, false, false, false, false, false, false, false, false, false]
abbrev impl_Seg_numbersOf.b1_ : Array Bool := #[true, false, false, false, false, false, false, false, false, false, false, false, false, false, false, false, false, false, false, false, false]
abbrev impl_Seg_numbersOf.b2_ : Array Bool := #[true, true, false, false, false, false, false, false, false, false, false, false, false, false, false, false, false, false, false, false, false]
abbrev impl_Seg_numbersOf.b3_ : Array Bool := #[true, true, false, false, false, true, false, false, false, false, false, false, false, false, false, false, false, false, false, false, false]
abbrev impl_Seg_numbersOf.b4_ : Array Bool := #[true, true, false, false, false, true, false, false, true, false, false, false, false, false, false, false, false, false, false, false, false]
abbrev impl_Seg_numbersOf.b5_ : Array Bool := #[true, true, false, false, false, true, false, false, true, true, false, false, false, false, false, false, false, false, false, false, false]
abbrev impl_Seg_numbersOf.b6_ : Array Bool := #[true, true, false, false, false, true, false, false, true, true, true, false, false, false, false, false, false, false, false, false, false]
abbrev impl_Seg_numbersOf.b7_ : Array Bool := #[true, true, false, false, false, true, false, false, true, true, true, true, false, false, false, false, false, false, false, false, false]
abbrev impl_Seg_numbersOf.b8_ : Array Bool := #[true, true, false, false, false, true, false, false, true, true, true, true, false, false, false, true, false, false, false, false, false]
abbrev impl_Seg_numbersOf.b9_ : Array Bool := #[true, true, false, false, false, true, false, false, true, true, true, true, false, false, false, true, true, false, false, false, false]
abbrev impl_Seg_numbersOf.b10_ : Array Bool := #[true, true, false, false, false, true, false, false, true, true, true, true, false, false, false, true, true, true, false, false, false]
abbrev impl_Seg_numbersOf.b11_ : Array Bool := #[true, true, true, false, false, true, false, false, true, true, true, true, false, false, false, true, true, true, false, false, false]
abbrev impl_Seg_numbersOf.b12_ : Array Bool := #[true, true, true, true, false, true, false, false, true, true, true, true, false, false, false, true, true, true, false, false, false]
abbrev impl_Seg_numbersOf.b13_ : Array Bool := #[true, true, true, true, true, true, false, false, true, true, true, true, false, false, false, true, true, true, false, false, false]
abbrev impl_Seg_numbersOf.b14_ : Array Bool := #[true, true, true, true, true, true, true, false, true, true, true, true, false, false, false, true, true, true, false, false, false]
abbrev impl_Seg_numbersOf.b15_ : Array Bool := #[true, true, true, true, true, true, true, true, true, true, true, true, false, false, false, true, true, true, false, false, false]
abbrev impl_Seg_numbersOf.b16_ : Array Bool := #[true, true, true, true, true, true, true, true, true, true, true, true, true, false, false, true, true, true, false, false, false]
abbrev impl_Seg_numbersOf.b17_ : Array Bool := #[true, true, true, true, true, true, true, true, true, true, true, true, true, true, false, true, true, true, false, false, false]
abbrev impl_Seg_numbersOf.b18_ : Array Bool := #[true, true, true, true, true, true, true, true, true, true, true, true, true, true, true, true, true, true, false, false, false]
abbrev impl_Seg_numbersOf.b19_ : Array Bool := #[true, true, true, true, true, true, true, true, true, true, true, true, true, true, true, true, true, true, true, false, false]
abbrev impl_Seg_numbersOf.b20_ : Array Bool := #[true, true, true, true, true, true, true, true, true, true, true, true, true, true, true, true, true, true, true, true, false]
abbrev impl_Seg_numbersOf.b21_ : Array Bool := #[true, true, true, true, true, true, true, true, true, true, true, true, true, true, true, true, true, true, true, true, true]
mutual
def impl_Seg_numbersOf.l0 : Nat → List Int → List Int → List (List (S55)) → Int → Int → Option (List Int × Bool)
 | 0, _, _, _, _, _ => none
 | k + 1, x1, x6, x13, x14, x15 => if x15 < x14 then (if 0 ≤ x15 then (if x15 < (x13.length : Int) then (impl_Seg_numbersOf.l1 k x1 x6 (rd_L7 x13 x15) x13 x14 x15 (rd_L7 x13 x15) ((rd_L7 x13 x15).length : Int) 0) else (none)) else (none)) else (some (x6, true))
def impl_Seg_numbersOf.l1 : Nat → List Int → List Int → List (S55) → List (List (S55)) → Int → Int → List (S55) → Int → Int → Option (List Int × Bool)
 | 0, _, _, _, _, _, _, _, _, _ => none
 | k + 1, x1, x6, x8, x13, x14, x15, x19, x20, x21 => if x21 < x20 then (if 0 ≤ x21 then (if x21 < (x19.length : Int) then (if 0 ≤ ((rd_T55 x19 x21).f0) then (if ((rd_T55 x19 x21).f0) < (x1.length : Int) then (if 0 < (x8.length : Int) then (if 0 ≤ ((rd_T55 x8 0).f0) then (if ((rd_T55 x8 0).f0) < (x1.length : Int) then (if (wrap64 ((rd x1 ((rd_T55 x19 x21).f0)) + ((rd_T55 x19 x21).f1))) = (wrap64 ((rd x1 ((rd_T55 x8 0).f0)) + ((rd_T55 x8 0).f1))) then (impl_Seg_numbersOf.l1 k x1 x6 x8 x13 x14 x15 x19 x20 (wrap64 (x21 + 1))) else (some (([] : List Int), false))) else (none)) else (none)) else (none)) else (none)) else (none)) else (none)) else (none)) else (if 0 < (x8.length : Int) then (if 0 ≤ ((rd_T55 x8 0).f0) then (if ((rd_T55 x8 0).f0) < (x1.length : Int) then (if x6.length < 17592186044416 then (impl_Seg_numbersOf.l0 k x1 (x6 ++ [wrap64 ((rd x1 ((rd_T55 x8 0).f0)) + ((rd_T55 x8 0).f1))]) x13 x14 (wrap64 (x15 + 1))) else (none)) else (none)) else (none)) else (none))
end
def impl_Seg_numbersOf.f (k : Nat) (l0_0 : List (List (S55))) (l0_1 : List (S62)) (l0_2 : List Bool) (l1 : List Int) : Option (List Int × Bool) := impl_Seg_numbersOf.l0 k l1 (([] : List Int)) l0_0 (l0_0.length : Int) 0
theorem impl_Seg_numbersOf.mono_l : ∀ k, (∀ y0 y1 y2 y3 y4, LeO (impl_Seg_numbersOf.l0 k y0 y1 y2 y3 y4) (impl_Seg_numbersOf.l0 (k + 1) y0 y1 y2 y3 y4)) ∧ (∀ y0 y1 y2 y3 y4 y5 y6 y7 y8, LeO (impl_Seg_numbersOf.l1 k y0 y1 y2 y3 y4 y5 y6 y7 y8) (impl_Seg_numbersOf.l1 (k + 1) y0 y1 y2 y3 y4 y5 y6 y7 y8))
 | 0 => ⟨fun _ _ _ _ _ r h => by simp [impl_Seg_numbersOf.l0] at h, fun _ _ _ _ _ _ _ _ _ r h => by simp [impl_Seg_numbersOf.l1] at h⟩
 | k + 1 => by
  obtain ⟨ih0, ih1⟩ := impl_Seg_numbersOf.mono_l k; refine ⟨?_, ?_⟩
  ·
   intro y0 y1 y2 y3 y4; unfold impl_Seg_numbersOf.l0
   repeat' first
   | (with_reducible exact ih0 _ _ _ _ _)
   | (with_reducible exact ih1 _ _ _ _ _ _ _ _ _)
   | (with_reducible exact LeO.refl _)
   | (with_reducible exact LeO.none _)
   | (with_reducible refine LeO.ite ?_ ?_)
   | (with_reducible refine LeO.bind ?_ (fun _ => ?_))
   | exact ih0 _ _ _ _ _
   | exact ih1 _ _ _ _ _ _ _ _ _
   | exact LeO.none _
   | refine LeO.ite ?_ ?_
   | refine LeO.bind ?_ (fun _ => ?_)
  ·
   intro y0 y1 y2 y3 y4 y5 y6 y7 y8; unfold impl_Seg_numbersOf.l1
   repeat' first
   | (with_reducible exact ih0 _ _ _ _ _)
   | (with_reducible exact ih1 _ _ _ _ _ _ _ _ _)
   | (with_reducible exact LeO.refl _)
   | (with_reducible exact LeO.none _)
   | (with_reducible refine LeO.ite ?_ ?_)
   | (with_reducible refine LeO.bind ?_ (fun _ => ?_))
   | exact ih0 _ _ _ _ _
   | exact ih1 _ _ _ _ _ _ _ _ _
   | exact LeO.none _
   | refine LeO.ite ?_ ?_
   | refine LeO.bind ?_ (fun _ => ?_)
theorem impl_Seg_numbersOf.mono : ∀ a0 a1 a2 a3 k, LeO (impl_Seg_numbersOf.f k a0 a1 a2 a3) (impl_Seg_numbersOf.f (k + 1) a0 a1 a2 a3) := by
 intro a0 a1 a2 a3 k; obtain ⟨ih0, ih1⟩ := impl_Seg_numbersOf.mono_l k; unfold impl_Seg_numbersOf.f
 repeat' first
   | (with_reducible exact ih0 _ _ _ _ _)
   | (with_reducible exact ih1 _ _ _ _ _ _ _ _ _)
   | (with_reducible exact LeO.refl _)
   | (with_reducible exact LeO.none _)
   | (with_reducible refine LeO.ite ?_ ?_)
   | (with_reducible refine LeO.bind ?_ (fun _ => ?_))
   | exact ih0 _ _ _ _ _
   | exact ih1 _ _ _ _ _ _ _ _ _
   | exact LeO.none _
   | refine LeO.ite ?_ ?_
   | refine LeO.bind ?_ (fun _ => ?_)
def impl_Seg_numbersOf.T8 : Bool × List (List Nat × List Nat) := (true, [([], []), ([], []), ([1], [1]), ([0, 2], [0, 2]), ([3], [3]), ([], []), ([5], [5]), ([4, 6], [4, 6]), ([], []), ([], []), ([9], [9]), ([10], [10]), ([11], [11]), ([8, 12], [8, 12]), ([13], [13]), ([], []), ([15], [15]), ([16], [16]), ([17], [17]), ([14, 18], [14, 18]), ([7, 19], [7, 19])])
def impl_Seg_numbersOf.B8 : List Nat := [0, 0, 2, 7, 15, 0, 32, 127, 0, 0, 512, 1536, 3584, 7936, 16128, 0, 32768, 98304, 229376, 524032, 1048575]
theorem impl_Seg_numbersOf.tab8 : rtab .any (opsOf Tryd.f47 8) = impl_Seg_numbersOf.T8 := by kernel_rfl
theorem impl_Seg_numbersOf.bits8 : waitsOk impl_Seg_numbersOf.T8.2 impl_Seg_numbersOf.B8 = true := by kernel_rfl
def impl_Seg_numbersOf.T11 : Bool × List (List Nat × List Nat) := (true, [([], []), ([], []), ([], []), ([2], [2]), ([3], [3]), ([4], [4]), ([1, 5], [1, 5]), ([6], [6]), ([], []), ([8], [8]), ([9], [9]), ([10], [10]), ([7, 11], [7, 11]), ([12], [12]), ([0, 13], [0, 13]), ([14, 14, 0, 1, 2, 3, 4, 5, 6, 7, 8, 9, 10, 11, 12, 13, 14], [0, 14])])
def impl_Seg_numbersOf.B11 : List Nat := [0, 0, 0, 4, 12, 28, 62, 126, 0, 256, 768, 1792, 4094, 8190, 16383, 32767]
theorem impl_Seg_numbersOf.tab11 : rtab .any (opsOf Tryd.f47 11) = impl_Seg_numbersOf.T11 := by kernel_rfl
theorem impl_Seg_numbersOf.bits11 : waitsOk impl_Seg_numbersOf.T11.2 impl_Seg_numbersOf.B11 = true := by kernel_rfl
set_option maxHeartbeats 8000000 in
set_option maxRecDepth 100000 in
theorem impl_Seg_numbersOf.calls (k : Nat) (A0_0 : Option Addr) (c0_0 : Nat) (l0_0 : List (List (S55))) (A0_1 : Option Addr) (c0_1 : Nat) (l0_1 : List (S62)) (A0_2 : Option Addr) (c0_2 : Nat) (l0_2 : List Bool) (A1 : Option Addr) (c1 : Nat) (l1 : List Int) (r1 : List Int) (r2 : Bool) (w : World) (hr0_0 : Kd.C (Kd.slice 55 k55) w A0_0 l0_0.length l0_0) (hc0_0 : l0_0.length ≤ c0_0) (hr0_1 : Kd.C k62 w A0_1 l0_1.length l0_1) (hc0_1 : l0_1.length ≤ c0_1) (hr0_2 : Kd.C Kd.bool w A0_2 l0_2.length l0_2) (hc0_2 : l0_2.length ≤ c0_2) (hr1 : Kd.C (Kd.int .i64) w A1 l1.length l1) (hc1 : l1.length ≤ c1) (h : impl_Seg_numbersOf.f k l0_0 l0_1 l0_2 l1 = some (r1, r2)) :
  Calls Tryd.prog 47 #[.agg #[.slice A0_0 l0_0.length c0_0, .slice A0_1 l0_1.length c0_1, .slice A0_2 l0_2.length c0_2], .slice A1 l1.length c1] w fun e w' => ∃ v0_ : Value, e = .returned (.tuple #[v0_, .bool r2]) ∧ Kd.R (Kd.int .i64) 3 w' w.heap.size (fun _ => True) v0_ r1 ∧ Below w.heap.size w w' := by
 have hu32 := Tryd.underlying32; have hu55 := Tryd.underlying55; have HR0_0 := Aside0.mk hr0_0; have HC0_0 := Aside0.mk hc0_0; clear hr0_0 hc0_0; have HR0_1 := Aside0.mk hr0_1; have HC0_1 := Aside0.mk hc0_1; clear hr0_1 hc0_1; have HR0_2 := Aside0.mk hr0_2; have HC0_2 := Aside0.mk hc0_2; clear hr0_2 hc0_2; have HR1 := Aside0.mk hr1; have HC1 := Aside0.mk hc1; clear hr1 hc1; have HB := Aside0.mk (Below.refl w.heap.size w); have H : (impl_Seg_numbersOf.l0 k l1 (([] : List Int)) l0_0 (l0_0.length : Int) 0) = some (r1, r2) := h; clear h; obtain ⟨y372, hy372⟩ : ∃ y_ : List Int, y_ = (([] : List Int)) := ⟨_, rfl⟩; replace H : (impl_Seg_numbersOf.l0 k l1 y372 l0_0 (l0_0.length : Int) 0) = some (r1, r2) := by first | (rw [hy372]; with_reducible exact H) | (have H2_ := (Option.bind_some _ _).symm.trans H; rw [hy372]; with_reducible exact H2_) | (have H2_ := (Option.bind_some _ _).symm.trans H; with_reducible exact H2_) | with_reducible exact H | (rw [hy372]; exact H) | exact H
 have Ny372 := Aside0.mk hy372; clear hy372; have H' := Aside0.mk H; clear H
 go_enter Tryd.func47, Tryd.ntmps47
 go_wp2_with (first | ((with_reducible refine gate_dst (N := 2) rfl ?_); refine box_y 2 #[.slice A0_0 l0_0.length c0_0, .slice A0_1 l0_1.length c0_1, .slice A0_2 l0_2.length c0_2] 32 (h := ?_); intro gb371 hg w3 hbox hb; have n0_ := Aside0.mk (below_step (sq_below HB.out) hb); have n1_ := Aside0.mk (hbox); have n2_ := ge_ hg (below_size (sq_below HB.out)); have n3_ := ge_ hg (below_size (sq_below HB.out)); clear HB; have HB := n0_; have BK371 := n1_; have GW371 := n2_; have GE371 := n3_; clear n0_ n1_ n2_ n3_; clear hb hbox hg) | ((with_reducible refine gate_dst (N := 11) rfl ?_); refine Kd.R_lit (Kd.int .i64) _ 3 ?hg (N := 11) ?hd (xs := ([] : List Int)) (inner := []) (ok := fun _ => True) (okp := fun _ => True) ?hr ?hp (fun _ hk => hk) trivial (Below.refl _ _) (Nat.le_refl _) (by simp) ?_; (case hd => rfl); (case hg => rfl); (case hr => first | (go_simp; done) | (go_simp; rfl)); (case hp => exact (Reps.none _ _)); intro v373 w4 ho5 hb hg_ hnew_; clear hg_ hnew_; (first | rw [← Ny372.out] at ho5 | (simp only [Int.reduceToNat] at ho5; rw [← Ny372.out] at ho5)); have n0_ := Aside0.mk (Kd.R_lower ho5 (below_size (sq_below1 HB.out GE371.out))); have n1_ := Aside0.mk (blk_below (sq_blk BK371.out) hb); have n2_ := Aside0.mk (below_step (sq_below1 HB.out GE371.out) hb); clear BK371; clear HB; have HO374 := n0_; have BK371 := n1_; have HB := n2_; clear n0_ n1_ n2_; clear hb ho5; have hcz6_0 := cl_ (v := .slice A0_0 l0_0.length c0_0) BK371 0; have hcz6_1 := cl_ (v := .slice A0_1 l0_1.length c0_1) BK371 1; have hcz6_2 := cl_ (v := .slice A0_2 l0_2.length c0_2) BK371 2; have hfz6_0 := blk_frozen BK371.out 0; have hfz6_1 := blk_frozen BK371.out 1; have hfz6_2 := blk_frozen BK371.out 2))
 go_loopg [6, 15] k (fun kq v6 v15 w' => ∃ (x6_1 : List Int) (x15_1 : Int), v15 = .int .i64 x15_1 ∧ Aside0 (impl_Seg_numbersOf.l0 kq l1 x6_1 l0_0 (l0_0.length : Int) x15_1 = some (r1, r2)) ∧ Aside0 (kq ≤ k) ∧ Aside0 (Kd.R (Kd.int .i64) 3 w' w.heap.size (fun _ => True) v6 x6_1) ∧ Aside0 (w'.heap[gb371]? = some (.cells #[(.slice A0_0 l0_0.length c0_0), (.slice A0_1 l0_1.length c0_1), (.slice A0_2 l0_2.length c0_2)] 32 (0, 0))) ∧ Aside0 (Below w.heap.size w w'))
 case atStart => exact ⟨(y372), (0), (by first | rfl | (simp; done) | (simp [*]; done)), H', ⟨Nat.le_refl _⟩, ⟨by (with_reducible repeat (first | apply Kd.R_alloc | apply Kd.R_drewN | apply Kd.R_drew)); exact HO374.out⟩, bk_ BK371, ⟨sq_below1 HB.out GE371.out⟩⟩
 case round =>
  clear H'
  try clear c1
  try clear p2
  try clear c4
  try clear hcz6_0
  try clear hcz6_1
  try clear hcz6_2
  try clear hfz6_0
  try clear hfz6_1
  try clear hfz6_2
  obtain ⟨x6_1, x15_1, rfl, HA, HK1, HO_6, BK371, HB⟩ := hrel; cases gk with
  | zero => exact absurd HA.out (by simp [impl_Seg_numbersOf.l0])
  | succ k1 =>
   have H := HA.out; clear HA; simp only [impl_Seg_numbersOf.l0] at H
   by_cases c7 : x15_1 < (l0_0.length : Int)
   ·
    rw [if_pos c7] at H; have c7b0 : decide (x15_1 < (l0_0.length : Int)) = true := decide_eq_true c7; clear c7
    by_cases c8 : 0 ≤ x15_1
    ·
     rw [if_pos c8] at H; have c8b0 : decide (0 ≤ x15_1) = true := decide_eq_true c8; clear c8
     by_cases c9 : x15_1 < (l0_0.length : Int)
     ·
      rw [if_pos c9] at H; have c9b0 : decide (x15_1 < (l0_0.length : Int)) = true := decide_eq_true c9; clear c9; have H' := Aside0.mk H; clear H; have p375 : 0 ≤ (x15_1 : Int) := sq_dec; have q375 : x15_1 < (l0_0.length : Int) := sq_dec; obtain ⟨ad375, A375_0, c375_0, e375, hx375_0, hl375_0, hi375_0⟩ := at_L7 HR0_0.out x15_1 p375 q375; cases e375; replace hx375_0 := (HB.out.cell (World.block_lt_of_cell? w _ hx375_0)).trans hx375_0; have HR375_0 := Aside0.mk hi375_0; have HC375_0 := Aside0.mk hl375_0; clear hi375_0 hl375_0; replace p375 := eq_true p375; replace q375 := eq_true q375
      go_wp2
      go_loopg [21] k1 (fun kq v21 w' => ∃ (x21_2 : Int), v21 = .int .i64 x21_2 ∧ Aside0 (impl_Seg_numbersOf.l1 kq l1 x6_1 (rd_L7 l0_0 x15_1) l0_0 (l0_0.length : Int) x15_1 (rd_L7 l0_0 x15_1) ((rd_L7 l0_0 x15_1).length : Int) x21_2 = some (r1, r2)) ∧ Aside0 (kq ≤ k1) ∧ Aside0 (Kd.R (Kd.int .i64) 3 w' w.heap.size (fun _ => True) u6 x6_1) ∧ Aside0 (w'.heap[gb371]? = some (.cells #[(.slice (some ad375) l0_0.length c0_0), (.slice A0_1 l0_1.length c0_1), (.slice A0_2 l0_2.length c0_2)] 32 (0, 0))) ∧ Aside0 (Below w.heap.size w w'))
      case atStart => exact ⟨(0), (by first | rfl | (simp; done) | (simp [*]; done)), H', ⟨Nat.le_refl _⟩, ⟨by (with_reducible repeat (first | apply Kd.R_alloc | apply Kd.R_drewN | apply Kd.R_drew)); exact HO_6.out⟩, bk_ BK371, ⟨sq_below1 HB.out GE371.out⟩⟩
      case round =>
       clear H'
       try clear c1
       try clear p2
       try clear c3
       try clear p3
       try clear q3
       try clear hx3
       try clear c4
       try clear c7
       try clear c7b0
       try clear c8
       try clear c8b0
       try clear c9
       try clear c9b0
       try clear hcz6_0
       try clear hcz6_1
       try clear hcz6_2
       try clear hfz6_0
       try clear hfz6_1
       try clear hfz6_2
       try clear hx375_0
       try clear p2
       try clear p375
       try clear q375
       obtain ⟨x21_2, rfl, HA, HK2, HO_6, BK371, HB⟩ := hrel; cases gk with
       | zero => exact absurd HA.out (by simp [impl_Seg_numbersOf.l1])
       | succ k2 =>
        have H := HA.out; clear HA; simp only [impl_Seg_numbersOf.l1] at H
        by_cases c10 : x21_2 < ((rd_L7 l0_0 x15_1).length : Int)
        ·
         rw [if_pos c10] at H; have c10b0 : decide (x21_2 < ((rd_L7 l0_0 x15_1).length : Int)) = true := decide_eq_true c10; clear c10
         by_cases c11 : 0 ≤ x21_2
         ·
          rw [if_pos c11] at H; have c11b0 : decide (0 ≤ x21_2) = true := decide_eq_true c11; clear c11
          by_cases c12 : x21_2 < ((rd_L7 l0_0 x15_1).length : Int)
          ·
           rw [if_pos c12] at H; have c12b0 : decide (x21_2 < ((rd_L7 l0_0 x15_1).length : Int)) = true := decide_eq_true c12; clear c12
           by_cases c13 : 0 ≤ ((rd_T55 (rd_L7 l0_0 x15_1) x21_2).f0)
           ·
            rw [if_pos c13] at H; have c13b0 : decide (0 ≤ ((rd_T55 (rd_L7 l0_0 x15_1) x21_2).f0)) = true := decide_eq_true c13; clear c13
            by_cases c14 : ((rd_T55 (rd_L7 l0_0 x15_1) x21_2).f0) < (l1.length : Int)
            ·
             rw [if_pos c14] at H; have c14b0 : decide (((rd_T55 (rd_L7 l0_0 x15_1) x21_2).f0) < (l1.length : Int)) = true := decide_eq_true c14; clear c14
             by_cases c15 : 0 < ((rd_L7 l0_0 x15_1).length : Int)
             ·
              rw [if_pos c15] at H; have c15b0 : decide (0 < ((rd_L7 l0_0 x15_1).length : Int)) = true := decide_eq_true c15; have c15b1 : decide (0 < (rd_L7 l0_0 x15_1).length) = true := decide_eq_true (by omega); clear c15
              by_cases c16 : 0 ≤ ((rd_T55 (rd_L7 l0_0 x15_1) 0).f0)
              ·
               rw [if_pos c16] at H; have c16b0 : decide (0 ≤ ((rd_T55 (rd_L7 l0_0 x15_1) 0).f0)) = true := decide_eq_true c16; clear c16
               by_cases c17 : ((rd_T55 (rd_L7 l0_0 x15_1) 0).f0) < (l1.length : Int)
               ·
                rw [if_pos c17] at H; have c17b0 : decide (((rd_T55 (rd_L7 l0_0 x15_1) 0).f0) < (l1.length : Int)) = true := decide_eq_true c17; clear c17
                by_cases c18 : (wrap64 ((rd l1 ((rd_T55 (rd_L7 l0_0 x15_1) x21_2).f0)) + ((rd_T55 (rd_L7 l0_0 x15_1) x21_2).f1))) = (wrap64 ((rd l1 ((rd_T55 (rd_L7 l0_0 x15_1) 0).f0)) + ((rd_T55 (rd_L7 l0_0 x15_1) 0).f1)))
                ·
                 rw [if_pos c18] at H; have c18b0 : ((wrap64 ((rd l1 ((rd_T55 (rd_L7 l0_0 x15_1) x21_2).f0)) + ((rd_T55 (rd_L7 l0_0 x15_1) x21_2).f1))) == (wrap64 ((rd l1 ((rd_T55 (rd_L7 l0_0 x15_1) 0).f0)) + ((rd_T55 (rd_L7 l0_0 x15_1) 0).f1)))) = true := beq_iff_eq.mpr c18; have c18b1 : ((wrap64 ((rd l1 ((rd_T55 (rd_L7 l0_0 x15_1) x21_2).f0)) + ((rd_T55 (rd_L7 l0_0 x15_1) x21_2).f1))) != (wrap64 ((rd l1 ((rd_T55 (rd_L7 l0_0 x15_1) 0).f0)) + ((rd_T55 (rd_L7 l0_0 x15_1) 0).f1)))) = false := bne_eq_false_iff_eq.mpr c18; clear c18; have H' := Aside0.mk H; clear H; have p376 : 0 ≤ (x21_2 : Int) := sq_dec; have q376 : x21_2 < ((rd_L7 l0_0 x15_1).length : Int) := sq_dec; obtain ⟨ad376, e376, hx376_0, hx376_1⟩ := at_T55 HR375_0.out x21_2 p376 q376; cases e376; replace hx376_0 := (HB.out.cell (World.block_lt_of_cell? w _ hx376_0)).trans hx376_0; replace hx376_1 := (HB.out.cell (World.block_lt_of_cell? w _ hx376_1)).trans hx376_1; replace p376 := eq_true p376; replace q376 := eq_true q376
                 try go_wp2_with (first | ((with_reducible refine gate_dst (N := 10) rfl ?_); refine box_y 10 #[.int .i64 0, .int .i64 0] 55 (h := ?_); intro gb377 hg w19 hbox hb; have n0_ := Aside0.mk (Kd.R_below (sq_row HO_6.out) hb); have n1_ := Aside0.mk (blk_below (sq_blk BK371.out) hb); have n2_ := Aside0.mk (below_step (sq_below1 HB.out GE371.out) hb); have n3_ := Aside0.mk (hbox); have n4_ := ge_ hg (below_size (sq_below1 HB.out GE371.out)); have n5_ := ge_ hg (below_size (sq_below1 HB.out GE371.out)); have n6_ := nb_ hg BK371; have n7_ := Aside0.mk (Ne.symm n6_.out); clear HO_6; clear BK371; clear HB; have HO_6 := n0_; have BK371 := n1_; have HB := n2_; have BK377 := n3_; have GW377 := n4_; have GE377 := n5_; have NB371_377 := n6_; have NB377_371 := n7_; clear n0_ n1_ n2_ n3_ n4_ n5_ n6_ n7_; clear hb hbox hg; have hnb20 := NB377_371.out; have hnc20 := NB371_377.out; have hcz21_0 := cl_ (v := .int .i64 0) BK377 0; have hcz21_1 := cl_ (v := .int .i64 0) BK377 1; have hfz21_0 := blk_frozen BK377.out 0; have hfz21_1 := blk_frozen BK377.out 1))
                 have n0_ : Aside0 (Kd.R (Kd.int .i64) 3 ((w19.setCell ⟨gb377, 0, none⟩ (.int .i64 ((rd_T55 (rd_L7 l0_0 x15_1) x21_2).f0))).setCell ⟨gb377, 1, none⟩ (.int .i64 ((rd_T55 (rd_L7 l0_0 x15_1) x21_2).f1))) w.heap.size (fun _ => True) u6 x6_1) := ⟨by (with_reducible repeat (first | apply Kd.R_alloc | apply Kd.R_drewN | apply Kd.R_drew)); exact Kd.R_mono (Kd.R_far (p := ⟨gb377, 1, none⟩) (Kd.R_far (p := ⟨gb377, 0, none⟩) (Kd.R_types HO_6.out BK377.out (by decide)) (fun _ hk => hk.2) (.int .i64 ((rd_T55 (rd_L7 l0_0 x15_1) x21_2).f0))) (fun _ hk => hk.2) (.int .i64 ((rd_T55 (rd_L7 l0_0 x15_1) x21_2).f1))) (fun _ hk => trivial)⟩; have n1_ : Aside0 (((w19.setCell ⟨gb377, 0, none⟩ (.int .i64 ((rd_T55 (rd_L7 l0_0 x15_1) x21_2).f0))).setCell ⟨gb377, 1, none⟩ (.int .i64 ((rd_T55 (rd_L7 l0_0 x15_1) x21_2).f1))).heap[gb371]? = some (.cells #[.slice (some ad375) l0_0.length c0_0, .slice A0_1 l0_1.length c0_1, .slice A0_2 l0_2.length c0_2] 32 (0, 0))) := bf_ BK371 NB371_377; have n2_ : Aside0 (((w19.setCell ⟨gb377, 0, none⟩ (.int .i64 ((rd_T55 (rd_L7 l0_0 x15_1) x21_2).f0))).setCell ⟨gb377, 1, none⟩ (.int .i64 ((rd_T55 (rd_L7 l0_0 x15_1) x21_2).f1))).heap[gb377]? = some (.cells #[.int .i64 ((rd_T55 (rd_L7 l0_0 x15_1) x21_2).f0), .int .i64 ((rd_T55 (rd_L7 l0_0 x15_1) x21_2).f1)] 55 (0, 0))) := ⟨by (with_reducible repeat (first | refine blk_drewN ?_ _ | refine blk_drew ?_ | refine blk_alloc ?_ _)); refine blk_put (cs := #[.int .i64 ((rd_T55 (rd_L7 l0_0 x15_1) x21_2).f0), .int .i64 0]) ?_ 1 _ rfl; (with_reducible repeat (first | refine blk_drewN ?_ _ | refine blk_drew ?_ | refine blk_alloc ?_ _)); refine blk_put (cs := #[.int .i64 0, .int .i64 0]) ?_ 0 _ rfl; (with_reducible repeat (first | refine blk_drewN ?_ _ | refine blk_drew ?_ | refine blk_alloc ?_ _)); exact BK377.out⟩; have n3_ : Aside0 (Below w.heap.size w ((w19.setCell ⟨gb377, 0, none⟩ (.int .i64 ((rd_T55 (rd_L7 l0_0 x15_1) x21_2).f0))).setCell ⟨gb377, 1, none⟩ (.int .i64 ((rd_T55 (rd_L7 l0_0 x15_1) x21_2).f1)))) := ⟨sq_below2 HB.out GE371.out GE377.out⟩
                 (try clear HO_6)
                 (try clear BK371)
                 (try clear BK377)
                 (try clear HB)
                 generalize ((w19.setCell ⟨gb377, 0, none⟩ (.int .i64 ((rd_T55 (rd_L7 l0_0 x15_1) x21_2).f0))).setCell ⟨gb377, 1, none⟩ (.int .i64 ((rd_T55 (rd_L7 l0_0 x15_1) x21_2).f1))) = w22 at n0_ n1_ n2_ n3_ ⊢; have HO_6 := n0_; have BK371 := n1_; have BK377 := n2_; have HB := n3_; clear n0_ n1_ n2_ n3_; replace HO_6 := Aside0.mk (Kd.R_drew HO_6.out); replace BK371 := bd_ BK371; replace BK377 := bd_ BK377; replace HB := hd_ HB; have p378 : 0 ≤ (((rd_T55 (rd_L7 l0_0 x15_1) x21_2).f0) : Int) := sq_dec; have q378 : ((rd_T55 (rd_L7 l0_0 x15_1) x21_2).f0) < (l1.length : Int) := sq_dec; obtain ⟨ad378, e378, hx378_0⟩ := Kd.at_int HR1.out ((rd_T55 (rd_L7 l0_0 x15_1) x21_2).f0) p378 q378; have hw378_0 := hx378_0; cases e378; replace hx378_0 := (HB.out.cell (World.block_lt_of_cell? w _ hx378_0)).trans hx378_0; replace p378 := eq_true p378; replace q378 := eq_true q378; have p379 : 0 ≤ (0 : Int) := (by omega); have q379 : 0 < ((rd_L7 l0_0 x15_1).length : Int) := sq_dec; obtain ⟨ad379, e379, hx379_0, hx379_1⟩ := at_T55 HR375_0.out 0 p379 q379; have hw379_1 := hx379_1
                 (try rw [show ((0 : Int)).toNat = 0 from rfl] at hw379_1)
                 (try rw [show 0 * 2 = 0 from rfl] at hw379_1)
                 (try rw [Addr.add_zero'] at hw379_1)
                 have hw379_0 := hx379_0
                 (try rw [show ((0 : Int)).toNat = 0 from rfl] at hw379_0)
                 (try rw [show 0 * 2 = 0 from rfl] at hw379_0)
                 (try rw [Addr.add_zero'] at hw379_0)
                 obtain rfl : ad376 = ad379 := (by injection e379); have qi379 : (0 < (rd_L7 l0_0 x15_1).length) = True := eq_true (by omega)
                 (try rw [show ((0 : Int)).toNat = 0 from rfl] at hx379_0)
                 (try rw [show 0 * 2 = 0 from rfl] at hx379_0)
                 (try rw [Addr.add_zero'] at hx379_0)
                 (try rw [show ((0 : Int)).toNat = 0 from rfl] at hx379_1)
                 (try rw [show 0 * 2 = 0 from rfl] at hx379_1)
                 (try rw [Addr.add_zero'] at hx379_1)
                 replace hx379_0 := (HB.out.cell (World.block_lt_of_cell? w _ hx379_0)).trans hx379_0; replace hx379_1 := (HB.out.cell (World.block_lt_of_cell? w _ hx379_1)).trans hx379_1; replace p379 := eq_true p379; replace q379 := eq_true q379; have p380 : 0 ≤ (((rd_T55 (rd_L7 l0_0 x15_1) 0).f0) : Int) := sq_dec; have q380 : ((rd_T55 (rd_L7 l0_0 x15_1) 0).f0) < (l1.length : Int) := sq_dec; obtain ⟨ad380, e380, hx380_0⟩ := Kd.at_int HR1.out ((rd_T55 (rd_L7 l0_0 x15_1) 0).f0) p380 q380; have hw380_0 := hx380_0; obtain rfl : ad378 = ad380 := (by injection e380); replace hx380_0 := (HB.out.cell (World.block_lt_of_cell? w _ hx380_0)).trans hx380_0; replace p380 := eq_true p380; replace q380 := eq_true q380; have p381 : 0 ≤ (0 : Int) := (by omega); have q381 : 0 < ((rd_L7 l0_0 x15_1).length : Int) := sq_dec; obtain ⟨ad381, e381, hx381_0, hx381_1⟩ := at_T55 HR375_0.out 0 p381 q381; have hw381_1 := hx381_1
                 (try rw [show ((0 : Int)).toNat = 0 from rfl] at hw381_1)
                 (try rw [show 0 * 2 = 0 from rfl] at hw381_1)
                 (try rw [Addr.add_zero'] at hw381_1)
                 have hw381_0 := hx381_0
                 (try rw [show ((0 : Int)).toNat = 0 from rfl] at hw381_0)
                 (try rw [show 0 * 2 = 0 from rfl] at hw381_0)
                 (try rw [Addr.add_zero'] at hw381_0)
                 obtain rfl : ad376 = ad381 := (by injection e381); have qi381 : (0 < (rd_L7 l0_0 x15_1).length) = True := eq_true (by omega)
                 (try rw [show ((0 : Int)).toNat = 0 from rfl] at hx381_0)
                 (try rw [show 0 * 2 = 0 from rfl] at hx381_0)
                 (try rw [Addr.add_zero'] at hx381_0)
                 (try rw [show ((0 : Int)).toNat = 0 from rfl] at hx381_1)
                 (try rw [show 0 * 2 = 0 from rfl] at hx381_1)
                 (try rw [Addr.add_zero'] at hx381_1)
                 replace hx381_0 := (HB.out.cell (World.block_lt_of_cell? w _ hx381_0)).trans hx381_0; replace hx381_1 := (HB.out.cell (World.block_lt_of_cell? w _ hx381_1)).trans hx381_1; replace p381 := eq_true p381; replace q381 := eq_true q381; refine start_ (n := 21) (S := fun w' => w'.cell? ⟨gb377, 0, none⟩ = some (.int .i64 ((rd_T55 (rd_L7 l0_0 x15_1) x21_2).f0)) ∧ w'.cell? ⟨gb377, 1, none⟩ = some (.int .i64 ((rd_T55 (rd_L7 l0_0 x15_1) x21_2).f1)) ∧ w'.cell? (ad378.add (((rd_T55 (rd_L7 l0_0 x15_1) x21_2).f0)).toNat) = some (.int .i64 (rd l1 ((rd_T55 (rd_L7 l0_0 x15_1) x21_2).f0))) ∧ w'.cell? ad376 = some (.int .i64 ((rd_T55 (rd_L7 l0_0 x15_1) 0).f0)) ∧ w'.cell? ⟨ad376.block, ad376.off + 1, none⟩ = some (.int .i64 ((rd_T55 (rd_L7 l0_0 x15_1) 0).f1)) ∧ w'.cell? (ad378.add (((rd_T55 (rd_L7 l0_0 x15_1) 0).f0)).toNat) = some (.int .i64 (rd l1 ((rd_T55 (rd_L7 l0_0 x15_1) 0).f0))) ∧ w'.cell? ad376 = some (.int .i64 ((rd_T55 (rd_L7 l0_0 x15_1) 0).f0)) ∧ w'.cell? ⟨ad376.block, ad376.off + 1, none⟩ = some (.int .i64 ((rd_T55 (rd_L7 l0_0 x15_1) 0).f1))) (ds := []) impl_Seg_numbersOf.b0_ (by kernel_rfl) rfl rfl ⟨cl_ BK377 0, cl_ BK377 1, ((HB.out.cell (World.block_lt_of_cell? w _ hw378_0)).trans hw378_0), ((HB.out.cell (World.block_lt_of_cell? w _ hw379_0)).trans hw379_0), ((HB.out.cell (World.block_lt_of_cell? w _ hw379_1)).trans hw379_1), ((HB.out.cell (World.block_lt_of_cell? w _ hw380_0)).trans hw380_0), ((HB.out.cell (World.block_lt_of_cell? w _ hw381_0)).trans hw381_0), ((HB.out.cell (World.block_lt_of_cell? w _ hw381_1)).trans hw381_1)⟩ (fun hHeld => ?_); refine with_tabW impl_Seg_numbersOf.tab8 impl_Seg_numbersOf.bits8 (fun HT_ HW_ => ?_); generalize w22.drew = w23 at HO_6 BK371 BK377 HB hx378_0 hx379_0 hx379_1 hx380_0 hx381_0 hx381_1 hHeld ⊢; refine pure_y 0 (some 25) impl_Seg_numbersOf.b1_ (any_of HT_.out (by kernel_rfl)) (h := ?_)
                 refine pure_y 1 (some 26) impl_Seg_numbersOf.b2_ (any_of HT_.out (by kernel_rfl)) (h := ?_)
                 refine pure_y 5 (some 30) impl_Seg_numbersOf.b3_ (any_of HT_.out (by kernel_rfl)) (h := ?_)
                 refine pure_y 8 (some 33) impl_Seg_numbersOf.b4_ (any_of HT_.out (by kernel_rfl)) (h := ?_)
                 refine pure_y 9 (some 34) impl_Seg_numbersOf.b5_ (any_of HT_.out (by kernel_rfl)) (h := ?_)
                 refine pure_y 10 (some 35) impl_Seg_numbersOf.b6_ (any_of HT_.out (by kernel_rfl)) (h := ?_)
                 refine pure_y 11 (some 36) impl_Seg_numbersOf.b7_ (any_of HT_.out (by kernel_rfl)) (h := ?_)
                 refine pure_y 15 (some 40) impl_Seg_numbersOf.b8_ (any_of HT_.out (by kernel_rfl)) (h := ?_)
                 refine pure_y 16 (some 41) impl_Seg_numbersOf.b9_ (any_of HT_.out (by kernel_rfl)) (h := ?_)
                 refine pure_y 17 (some 42) impl_Seg_numbersOf.b10_ (any_of HT_.out (by kernel_rfl)) (h := ?_)
                 refine take_y 2 (some 27) impl_Seg_numbersOf.b11_ rfl (take_ofW HT_.out HW_.out (by kernel_rfl)) hHeld (Or.inl ⟨by rfl, (by rintro w' ⟨s0, s1, s2, s3, s4, s5, s6, s7⟩; go_simp; with_reducible rfl)⟩) (h := ?_)
                 refine pure_y 3 (some 28) impl_Seg_numbersOf.b12_ (any_of HT_.out (by kernel_rfl)) (h := ?_)
                 refine take_y 4 (some 29) impl_Seg_numbersOf.b13_ rfl (take_ofW HT_.out HW_.out (by kernel_rfl)) hHeld (Or.inl ⟨by rfl, (by rintro w' ⟨s0, s1, s2, s3, s4, s5, s6, s7⟩; go_simp; with_reducible rfl)⟩) (h := ?_)
                 refine take_y 6 (some 31) impl_Seg_numbersOf.b14_ rfl (take_ofW HT_.out HW_.out (by kernel_rfl)) hHeld (Or.inl ⟨by rfl, (by rintro w' ⟨s0, s1, s2, s3, s4, s5, s6, s7⟩; go_simp; with_reducible rfl)⟩) (h := ?_)
                 refine pure_y 7 (some 32) impl_Seg_numbersOf.b15_ (any_of HT_.out (by kernel_rfl)) (h := ?_)
                 refine take_y 12 (some 37) impl_Seg_numbersOf.b16_ rfl (take_ofW HT_.out HW_.out (by kernel_rfl)) hHeld (Or.inl ⟨by rfl, (by rintro w' ⟨s0, s1, s2, s3, s4, s5, s6, s7⟩; go_simp; with_reducible rfl)⟩) (h := ?_)
                 refine pure_y 13 (some 38) impl_Seg_numbersOf.b17_ (any_of HT_.out (by kernel_rfl)) (h := ?_)
                 refine take_y 14 (some 39) impl_Seg_numbersOf.b18_ rfl (take_ofW HT_.out HW_.out (by kernel_rfl)) hHeld (Or.inl ⟨by rfl, (by rintro w' ⟨s0, s1, s2, s3, s4, s5, s6, s7⟩; go_simp; with_reducible rfl)⟩) (h := ?_)
                 refine take_y 18 (some 43) impl_Seg_numbersOf.b19_ rfl (take_ofW HT_.out HW_.out (by kernel_rfl)) hHeld (Or.inl ⟨by rfl, (by rintro w' ⟨s0, s1, s2, s3, s4, s5, s6, s7⟩; go_simp; with_reducible rfl)⟩) (h := ?_)
                 refine pure_y 19 (some 44) impl_Seg_numbersOf.b20_ (any_of HT_.out (by kernel_rfl)) (h := ?_)
                 refine pure_y 20 (some 45) impl_Seg_numbersOf.b21_ (any_of HT_.out (by kernel_rfl)) (h := ?_)
                 refine done_ (done_of HT_.out (by kernel_rfl)) ?_
                 try go_wp2
                 go_roundg k2
                 case measure => have := HK1.out; have := HK2.out; omega
                 case rel => exact ⟨(wrap64 (x21_2 + 1)), (by first | rfl | (simp; done) | (simp [*]; done)), H', ⟨by have := HK1.out; have := HK2.out; omega⟩, ⟨by (with_reducible repeat (first | apply Kd.R_alloc | apply Kd.R_drewN | apply Kd.R_drew)); exact HO_6.out⟩, bk_ BK371, ⟨sq_below2 HB.out GE371.out GE377.out⟩⟩
                ·
                 rw [if_neg c18] at H; have c18b0 : ((wrap64 ((rd l1 ((rd_T55 (rd_L7 l0_0 x15_1) x21_2).f0)) + ((rd_T55 (rd_L7 l0_0 x15_1) x21_2).f1))) == (wrap64 ((rd l1 ((rd_T55 (rd_L7 l0_0 x15_1) 0).f0)) + ((rd_T55 (rd_L7 l0_0 x15_1) 0).f1)))) = false := beq_eq_false_iff_ne.mpr c18; have c18b1 : ((wrap64 ((rd l1 ((rd_T55 (rd_L7 l0_0 x15_1) x21_2).f0)) + ((rd_T55 (rd_L7 l0_0 x15_1) x21_2).f1))) != (wrap64 ((rd l1 ((rd_T55 (rd_L7 l0_0 x15_1) 0).f0)) + ((rd_T55 (rd_L7 l0_0 x15_1) 0).f1)))) = true := bne_iff_ne.mpr c18; simp only [Option.some.injEq, Prod.mk.injEq] at H; obtain ⟨rfl, rfl⟩ := H; have p376 : 0 ≤ (x21_2 : Int) := sq_dec; have q376 : x21_2 < ((rd_L7 l0_0 x15_1).length : Int) := sq_dec; obtain ⟨ad376, e376, hx376_0, hx376_1⟩ := at_T55 HR375_0.out x21_2 p376 q376; cases e376; replace hx376_0 := (HB.out.cell (World.block_lt_of_cell? w _ hx376_0)).trans hx376_0; replace hx376_1 := (HB.out.cell (World.block_lt_of_cell? w _ hx376_1)).trans hx376_1; replace p376 := eq_true p376; replace q376 := eq_true q376
                 try go_wp2_with (first | ((with_reducible refine gate_dst (N := 10) rfl ?_); refine box_y 10 #[.int .i64 0, .int .i64 0] 55 (h := ?_); intro gb377 hg w24 hbox hb; have n0_ := Aside0.mk (Kd.R_below (sq_row HO_6.out) hb); have n1_ := Aside0.mk (below_step (sq_below HB.out) hb); have n2_ := Aside0.mk (hbox); have n3_ := ge_ hg (below_size (sq_below HB.out)); have n4_ := ge_ hg (below_size (sq_below HB.out)); clear HO_6; clear HB; have HO_6 := n0_; have HB := n1_; have BK377 := n2_; have GW377 := n3_; have GE377 := n4_; clear n0_ n1_ n2_ n3_ n4_; clear hb hbox hg; have hcz25_0 := cl_ (v := .int .i64 0) BK377 0; have hcz25_1 := cl_ (v := .int .i64 0) BK377 1; have hfz25_0 := blk_frozen BK377.out 0; have hfz25_1 := blk_frozen BK377.out 1))
                 have n0_ : Aside0 (Kd.R (Kd.int .i64) 3 ((w24.setCell ⟨gb377, 0, none⟩ (.int .i64 ((rd_T55 (rd_L7 l0_0 x15_1) x21_2).f0))).setCell ⟨gb377, 1, none⟩ (.int .i64 ((rd_T55 (rd_L7 l0_0 x15_1) x21_2).f1))) w.heap.size (fun _ => True) u6 x6_1) := ⟨by (with_reducible repeat (first | apply Kd.R_alloc | apply Kd.R_drewN | apply Kd.R_drew)); exact Kd.R_mono (Kd.R_far (p := ⟨gb377, 1, none⟩) (Kd.R_far (p := ⟨gb377, 0, none⟩) (Kd.R_types HO_6.out BK377.out (by decide)) (fun _ hk => hk.2) (.int .i64 ((rd_T55 (rd_L7 l0_0 x15_1) x21_2).f0))) (fun _ hk => hk.2) (.int .i64 ((rd_T55 (rd_L7 l0_0 x15_1) x21_2).f1))) (fun _ hk => trivial)⟩; have n1_ : Aside0 (((w24.setCell ⟨gb377, 0, none⟩ (.int .i64 ((rd_T55 (rd_L7 l0_0 x15_1) x21_2).f0))).setCell ⟨gb377, 1, none⟩ (.int .i64 ((rd_T55 (rd_L7 l0_0 x15_1) x21_2).f1))).heap[gb377]? = some (.cells #[.int .i64 ((rd_T55 (rd_L7 l0_0 x15_1) x21_2).f0), .int .i64 ((rd_T55 (rd_L7 l0_0 x15_1) x21_2).f1)] 55 (0, 0))) := ⟨by (with_reducible repeat (first | refine blk_drewN ?_ _ | refine blk_drew ?_ | refine blk_alloc ?_ _)); refine blk_put (cs := #[.int .i64 ((rd_T55 (rd_L7 l0_0 x15_1) x21_2).f0), .int .i64 0]) ?_ 1 _ rfl; (with_reducible repeat (first | refine blk_drewN ?_ _ | refine blk_drew ?_ | refine blk_alloc ?_ _)); refine blk_put (cs := #[.int .i64 0, .int .i64 0]) ?_ 0 _ rfl; (with_reducible repeat (first | refine blk_drewN ?_ _ | refine blk_drew ?_ | refine blk_alloc ?_ _)); exact BK377.out⟩; have n2_ : Aside0 (Below w.heap.size w ((w24.setCell ⟨gb377, 0, none⟩ (.int .i64 ((rd_T55 (rd_L7 l0_0 x15_1) x21_2).f0))).setCell ⟨gb377, 1, none⟩ (.int .i64 ((rd_T55 (rd_L7 l0_0 x15_1) x21_2).f1)))) := ⟨sq_below1 HB.out GE377.out⟩
                 (try clear HO_6)
                 (try clear BK377)
                 (try clear HB)
                 generalize ((w24.setCell ⟨gb377, 0, none⟩ (.int .i64 ((rd_T55 (rd_L7 l0_0 x15_1) x21_2).f0))).setCell ⟨gb377, 1, none⟩ (.int .i64 ((rd_T55 (rd_L7 l0_0 x15_1) x21_2).f1))) = w26 at n0_ n1_ n2_ ⊢; have HO_6 := n0_; have BK377 := n1_; have HB := n2_; clear n0_ n1_ n2_; replace HO_6 := Aside0.mk (Kd.R_drew HO_6.out); replace BK377 := bd_ BK377; replace HB := hd_ HB; have p378 : 0 ≤ (((rd_T55 (rd_L7 l0_0 x15_1) x21_2).f0) : Int) := sq_dec; have q378 : ((rd_T55 (rd_L7 l0_0 x15_1) x21_2).f0) < (l1.length : Int) := sq_dec; obtain ⟨ad378, e378, hx378_0⟩ := Kd.at_int HR1.out ((rd_T55 (rd_L7 l0_0 x15_1) x21_2).f0) p378 q378; have hw378_0 := hx378_0; cases e378; replace hx378_0 := (HB.out.cell (World.block_lt_of_cell? w _ hx378_0)).trans hx378_0; replace p378 := eq_true p378; replace q378 := eq_true q378; have p379 : 0 ≤ (0 : Int) := (by omega); have q379 : 0 < ((rd_L7 l0_0 x15_1).length : Int) := sq_dec; obtain ⟨ad379, e379, hx379_0, hx379_1⟩ := at_T55 HR375_0.out 0 p379 q379; have hw379_1 := hx379_1
                 (try rw [show ((0 : Int)).toNat = 0 from rfl] at hw379_1)
                 (try rw [show 0 * 2 = 0 from rfl] at hw379_1)
                 (try rw [Addr.add_zero'] at hw379_1)
                 have hw379_0 := hx379_0
                 (try rw [show ((0 : Int)).toNat = 0 from rfl] at hw379_0)
                 (try rw [show 0 * 2 = 0 from rfl] at hw379_0)
                 (try rw [Addr.add_zero'] at hw379_0)
                 obtain rfl : ad376 = ad379 := (by injection e379); have qi379 : (0 < (rd_L7 l0_0 x15_1).length) = True := eq_true (by omega)
                 (try rw [show ((0 : Int)).toNat = 0 from rfl] at hx379_0)
                 (try rw [show 0 * 2 = 0 from rfl] at hx379_0)
                 (try rw [Addr.add_zero'] at hx379_0)
                 (try rw [show ((0 : Int)).toNat = 0 from rfl] at hx379_1)
                 (try rw [show 0 * 2 = 0 from rfl] at hx379_1)
                 (try rw [Addr.add_zero'] at hx379_1)
                 replace hx379_0 := (HB.out.cell (World.block_lt_of_cell? w _ hx379_0)).trans hx379_0; replace hx379_1 := (HB.out.cell (World.block_lt_of_cell? w _ hx379_1)).trans hx379_1; replace p379 := eq_true p379; replace q379 := eq_true q379; have p380 : 0 ≤ (((rd_T55 (rd_L7 l0_0 x15_1) 0).f0) : Int) := sq_dec; have q380 : ((rd_T55 (rd_L7 l0_0 x15_1) 0).f0) < (l1.length : Int) := sq_dec; obtain ⟨ad380, e380, hx380_0⟩ := Kd.at_int HR1.out ((rd_T55 (rd_L7 l0_0 x15_1) 0).f0) p380 q380; have hw380_0 := hx380_0; obtain rfl : ad378 = ad380 := (by injection e380); replace hx380_0 := (HB.out.cell (World.block_lt_of_cell? w _ hx380_0)).trans hx380_0; replace p380 := eq_true p380; replace q380 := eq_true q380; have p381 : 0 ≤ (0 : Int) := (by omega); have q381 : 0 < ((rd_L7 l0_0 x15_1).length : Int) := sq_dec; obtain ⟨ad381, e381, hx381_0, hx381_1⟩ := at_T55 HR375_0.out 0 p381 q381; have hw381_1 := hx381_1
                 (try rw [show ((0 : Int)).toNat = 0 from rfl] at hw381_1)
                 (try rw [show 0 * 2 = 0 from rfl] at hw381_1)
                 (try rw [Addr.add_zero'] at hw381_1)
                 have hw381_0 := hx381_0
                 (try rw [show ((0 : Int)).toNat = 0 from rfl] at hw381_0)
                 (try rw [show 0 * 2 = 0 from rfl] at hw381_0)
                 (try rw [Addr.add_zero'] at hw381_0)
                 obtain rfl : ad376 = ad381 := (by injection e381); have qi381 : (0 < (rd_L7 l0_0 x15_1).length) = True := eq_true (by omega)
                 (try rw [show ((0 : Int)).toNat = 0 from rfl] at hx381_0)
                 (try rw [show 0 * 2 = 0 from rfl] at hx381_0)
                 (try rw [Addr.add_zero'] at hx381_0)
                 (try rw [show ((0 : Int)).toNat = 0 from rfl] at hx381_1)
                 (try rw [show 0 * 2 = 0 from rfl] at hx381_1)
                 (try rw [Addr.add_zero'] at hx381_1)
                 replace hx381_0 := (HB.out.cell (World.block_lt_of_cell? w _ hx381_0)).trans hx381_0; replace hx381_1 := (HB.out.cell (World.block_lt_of_cell? w _ hx381_1)).trans hx381_1; replace p381 := eq_true p381; replace q381 := eq_true q381; refine start_ (n := 21) (S := fun w' => w'.cell? ⟨gb377, 0, none⟩ = some (.int .i64 ((rd_T55 (rd_L7 l0_0 x15_1) x21_2).f0)) ∧ w'.cell? ⟨gb377, 1, none⟩ = some (.int .i64 ((rd_T55 (rd_L7 l0_0 x15_1) x21_2).f1)) ∧ w'.cell? (ad378.add (((rd_T55 (rd_L7 l0_0 x15_1) x21_2).f0)).toNat) = some (.int .i64 (rd l1 ((rd_T55 (rd_L7 l0_0 x15_1) x21_2).f0))) ∧ w'.cell? ad376 = some (.int .i64 ((rd_T55 (rd_L7 l0_0 x15_1) 0).f0)) ∧ w'.cell? ⟨ad376.block, ad376.off + 1, none⟩ = some (.int .i64 ((rd_T55 (rd_L7 l0_0 x15_1) 0).f1)) ∧ w'.cell? (ad378.add (((rd_T55 (rd_L7 l0_0 x15_1) 0).f0)).toNat) = some (.int .i64 (rd l1 ((rd_T55 (rd_L7 l0_0 x15_1) 0).f0))) ∧ w'.cell? ad376 = some (.int .i64 ((rd_T55 (rd_L7 l0_0 x15_1) 0).f0)) ∧ w'.cell? ⟨ad376.block, ad376.off + 1, none⟩ = some (.int .i64 ((rd_T55 (rd_L7 l0_0 x15_1) 0).f1))) (ds := []) impl_Seg_numbersOf.b0_ (by kernel_rfl) rfl rfl ⟨cl_ BK377 0, cl_ BK377 1, ((HB.out.cell (World.block_lt_of_cell? w _ hw378_0)).trans hw378_0), ((HB.out.cell (World.block_lt_of_cell? w _ hw379_0)).trans hw379_0), ((HB.out.cell (World.block_lt_of_cell? w _ hw379_1)).trans hw379_1), ((HB.out.cell (World.block_lt_of_cell? w _ hw380_0)).trans hw380_0), ((HB.out.cell (World.block_lt_of_cell? w _ hw381_0)).trans hw381_0), ((HB.out.cell (World.block_lt_of_cell? w _ hw381_1)).trans hw381_1)⟩ (fun hHeld => ?_); refine with_tabW impl_Seg_numbersOf.tab8 impl_Seg_numbersOf.bits8 (fun HT_ HW_ => ?_); generalize w26.drew = w27 at HO_6 BK377 HB hx378_0 hx379_0 hx379_1 hx380_0 hx381_0 hx381_1 hHeld ⊢; refine pure_y 0 (some 25) impl_Seg_numbersOf.b1_ (any_of HT_.out (by kernel_rfl)) (h := ?_)
                 refine pure_y 1 (some 26) impl_Seg_numbersOf.b2_ (any_of HT_.out (by kernel_rfl)) (h := ?_)
                 refine pure_y 5 (some 30) impl_Seg_numbersOf.b3_ (any_of HT_.out (by kernel_rfl)) (h := ?_)
                 refine pure_y 8 (some 33) impl_Seg_numbersOf.b4_ (any_of HT_.out (by kernel_rfl)) (h := ?_)
                 refine pure_y 9 (some 34) impl_Seg_numbersOf.b5_ (any_of HT_.out (by kernel_rfl)) (h := ?_)
                 refine pure_y 10 (some 35) impl_Seg_numbersOf.b6_ (any_of HT_.out (by kernel_rfl)) (h := ?_)
                 refine pure_y 11 (some 36) impl_Seg_numbersOf.b7_ (any_of HT_.out (by kernel_rfl)) (h := ?_)
                 refine pure_y 15 (some 40) impl_Seg_numbersOf.b8_ (any_of HT_.out (by kernel_rfl)) (h := ?_)
                 refine pure_y 16 (some 41) impl_Seg_numbersOf.b9_ (any_of HT_.out (by kernel_rfl)) (h := ?_)
                 refine pure_y 17 (some 42) impl_Seg_numbersOf.b10_ (any_of HT_.out (by kernel_rfl)) (h := ?_)
                 refine take_y 2 (some 27) impl_Seg_numbersOf.b11_ rfl (take_ofW HT_.out HW_.out (by kernel_rfl)) hHeld (Or.inl ⟨by rfl, (by rintro w' ⟨s0, s1, s2, s3, s4, s5, s6, s7⟩; go_simp; with_reducible rfl)⟩) (h := ?_)
                 refine pure_y 3 (some 28) impl_Seg_numbersOf.b12_ (any_of HT_.out (by kernel_rfl)) (h := ?_)
                 refine take_y 4 (some 29) impl_Seg_numbersOf.b13_ rfl (take_ofW HT_.out HW_.out (by kernel_rfl)) hHeld (Or.inl ⟨by rfl, (by rintro w' ⟨s0, s1, s2, s3, s4, s5, s6, s7⟩; go_simp; with_reducible rfl)⟩) (h := ?_)
                 refine take_y 6 (some 31) impl_Seg_numbersOf.b14_ rfl (take_ofW HT_.out HW_.out (by kernel_rfl)) hHeld (Or.inl ⟨by rfl, (by rintro w' ⟨s0, s1, s2, s3, s4, s5, s6, s7⟩; go_simp; with_reducible rfl)⟩) (h := ?_)
                 refine pure_y 7 (some 32) impl_Seg_numbersOf.b15_ (any_of HT_.out (by kernel_rfl)) (h := ?_)
                 refine take_y 12 (some 37) impl_Seg_numbersOf.b16_ rfl (take_ofW HT_.out HW_.out (by kernel_rfl)) hHeld (Or.inl ⟨by rfl, (by rintro w' ⟨s0, s1, s2, s3, s4, s5, s6, s7⟩; go_simp; with_reducible rfl)⟩) (h := ?_)
                 refine pure_y 13 (some 38) impl_Seg_numbersOf.b17_ (any_of HT_.out (by kernel_rfl)) (h := ?_)
                 refine take_y 14 (some 39) impl_Seg_numbersOf.b18_ rfl (take_ofW HT_.out HW_.out (by kernel_rfl)) hHeld (Or.inl ⟨by rfl, (by rintro w' ⟨s0, s1, s2, s3, s4, s5, s6, s7⟩; go_simp; with_reducible rfl)⟩) (h := ?_)
                 refine take_y 18 (some 43) impl_Seg_numbersOf.b19_ rfl (take_ofW HT_.out HW_.out (by kernel_rfl)) hHeld (Or.inl ⟨by rfl, (by rintro w' ⟨s0, s1, s2, s3, s4, s5, s6, s7⟩; go_simp; with_reducible rfl)⟩) (h := ?_)
                 refine pure_y 19 (some 44) impl_Seg_numbersOf.b20_ (any_of HT_.out (by kernel_rfl)) (h := ?_)
                 refine pure_y 20 (some 45) impl_Seg_numbersOf.b21_ (any_of HT_.out (by kernel_rfl)) (h := ?_)
                 refine done_ (done_of HT_.out (by kernel_rfl)) ?_
                 try go_wp2
                 go_ret2
                 exact ⟨_, by first | rfl | (simp [errW_none, errW_some] <;> rfl) | (simp [*, errW_none, errW_some] <;> rfl), by first | exact Kd.R_nil _ _ _ _ _ | exact Kd.N_nil _ _ _ _ _ | exact Kd.V_nil _ _ _ _ _ | exact Kd.Q_nil _ _ _ _ _ | exact Kd.S_nil _ _ _ _ _, sq_below1 HB.out GE377.out⟩
               ·
                rw [if_neg c17] at H; exact absurd H (by simp)
              ·
               rw [if_neg c16] at H; exact absurd H (by simp)
             ·
              rw [if_neg c15] at H; exact absurd H (by simp)
            ·
             rw [if_neg c14] at H; exact absurd H (by simp)
           ·
            rw [if_neg c13] at H; exact absurd H (by simp)
          ·
           rw [if_neg c12] at H; exact absurd H (by simp)
         ·
          rw [if_neg c11] at H; exact absurd H (by simp)
        ·
         rw [if_neg c10] at H; have c10b0 : decide (x21_2 < ((rd_L7 l0_0 x15_1).length : Int)) = false := decide_eq_false c10; clear c10
         by_cases c28 : 0 < ((rd_L7 l0_0 x15_1).length : Int)
         ·
          rw [if_pos c28] at H; have c28b0 : decide (0 < ((rd_L7 l0_0 x15_1).length : Int)) = true := decide_eq_true c28; have c28b1 : decide (0 < (rd_L7 l0_0 x15_1).length) = true := decide_eq_true (by omega); clear c28
          by_cases c29 : 0 ≤ ((rd_T55 (rd_L7 l0_0 x15_1) 0).f0)
          ·
           rw [if_pos c29] at H; have c29b0 : decide (0 ≤ ((rd_T55 (rd_L7 l0_0 x15_1) 0).f0)) = true := decide_eq_true c29; clear c29
           by_cases c30 : ((rd_T55 (rd_L7 l0_0 x15_1) 0).f0) < (l1.length : Int)
           ·
            rw [if_pos c30] at H; have c30b0 : decide (((rd_T55 (rd_L7 l0_0 x15_1) 0).f0) < (l1.length : Int)) = true := decide_eq_true c30; clear c30
            by_cases c31 : x6_1.length < 17592186044416
            ·
             rw [if_pos c31] at H; have LMc31 := Aside0.mk c31; clear c31; obtain ⟨y385, hy385⟩ : ∃ y_ : List Int, y_ = (x6_1 ++ [wrap64 ((rd l1 ((rd_T55 (rd_L7 l0_0 x15_1) 0).f0)) + ((rd_T55 (rd_L7 l0_0 x15_1) 0).f1))]) := ⟨_, rfl⟩; replace H : (impl_Seg_numbersOf.l0 k2 l1 y385 l0_0 (l0_0.length : Int) (wrap64 (x15_1 + 1))) = some (r1, r2) := by first | (rw [hy385]; with_reducible exact H) | (have H2_ := (Option.bind_some _ _).symm.trans H; rw [hy385]; with_reducible exact H2_) | (have H2_ := (Option.bind_some _ _).symm.trans H; with_reducible exact H2_) | with_reducible exact H | (rw [hy385]; exact H) | exact H
             have Ny385 := Aside0.mk hy385; clear hy385; have H' := Aside0.mk H; clear H
             try go_wp2
             replace HO_6 := Aside0.mk (Kd.R_drew HO_6.out); replace BK371 := bd_ BK371; replace HB := hd_ HB; have p382 : 0 ≤ (0 : Int) := (by omega); have q382 : 0 < ((rd_L7 l0_0 x15_1).length : Int) := sq_dec; obtain ⟨ad382, e382, hx382_0, hx382_1⟩ := at_T55 HR375_0.out 0 p382 q382; have hw382_1 := hx382_1
             (try rw [show ((0 : Int)).toNat = 0 from rfl] at hw382_1)
             (try rw [show 0 * 2 = 0 from rfl] at hw382_1)
             (try rw [Addr.add_zero'] at hw382_1)
             have hw382_0 := hx382_0
             (try rw [show ((0 : Int)).toNat = 0 from rfl] at hw382_0)
             (try rw [show 0 * 2 = 0 from rfl] at hw382_0)
             (try rw [Addr.add_zero'] at hw382_0)
             cases e382; have qi382 : (0 < (rd_L7 l0_0 x15_1).length) = True := eq_true (by omega)
             (try rw [show ((0 : Int)).toNat = 0 from rfl] at hx382_0)
             (try rw [show 0 * 2 = 0 from rfl] at hx382_0)
             (try rw [Addr.add_zero'] at hx382_0)
             (try rw [show ((0 : Int)).toNat = 0 from rfl] at hx382_1)
             (try rw [show 0 * 2 = 0 from rfl] at hx382_1)
             (try rw [Addr.add_zero'] at hx382_1)
             replace hx382_0 := (HB.out.cell (World.block_lt_of_cell? w _ hx382_0)).trans hx382_0; replace hx382_1 := (HB.out.cell (World.block_lt_of_cell? w _ hx382_1)).trans hx382_1; replace p382 := eq_true p382; replace q382 := eq_true q382; have p383 : 0 ≤ (((rd_T55 (rd_L7 l0_0 x15_1) 0).f0) : Int) := sq_dec; have q383 : ((rd_T55 (rd_L7 l0_0 x15_1) 0).f0) < (l1.length : Int) := sq_dec; obtain ⟨ad383, e383, hx383_0⟩ := Kd.at_int HR1.out ((rd_T55 (rd_L7 l0_0 x15_1) 0).f0) p383 q383; have hw383_0 := hx383_0; cases e383; replace hx383_0 := (HB.out.cell (World.block_lt_of_cell? w _ hx383_0)).trans hx383_0; replace p383 := eq_true p383; replace q383 := eq_true q383; have p384 : 0 ≤ (0 : Int) := (by omega); have q384 : 0 < ((rd_L7 l0_0 x15_1).length : Int) := sq_dec; obtain ⟨ad384, e384, hx384_0, hx384_1⟩ := at_T55 HR375_0.out 0 p384 q384; have hw384_1 := hx384_1
             (try rw [show ((0 : Int)).toNat = 0 from rfl] at hw384_1)
             (try rw [show 0 * 2 = 0 from rfl] at hw384_1)
             (try rw [Addr.add_zero'] at hw384_1)
             have hw384_0 := hx384_0
             (try rw [show ((0 : Int)).toNat = 0 from rfl] at hw384_0)
             (try rw [show 0 * 2 = 0 from rfl] at hw384_0)
             (try rw [Addr.add_zero'] at hw384_0)
             obtain rfl : ad382 = ad384 := (by injection e384); have qi384 : (0 < (rd_L7 l0_0 x15_1).length) = True := eq_true (by omega)
             (try rw [show ((0 : Int)).toNat = 0 from rfl] at hx384_0)
             (try rw [show 0 * 2 = 0 from rfl] at hx384_0)
             (try rw [Addr.add_zero'] at hx384_0)
             (try rw [show ((0 : Int)).toNat = 0 from rfl] at hx384_1)
             (try rw [show 0 * 2 = 0 from rfl] at hx384_1)
             (try rw [Addr.add_zero'] at hx384_1)
             replace hx384_0 := (HB.out.cell (World.block_lt_of_cell? w _ hx384_0)).trans hx384_0; replace hx384_1 := (HB.out.cell (World.block_lt_of_cell? w _ hx384_1)).trans hx384_1; replace p384 := eq_true p384; replace q384 := eq_true q384; refine start_ (n := 16) (S := fun w' => w'.cell? ad382 = some (.int .i64 ((rd_T55 (rd_L7 l0_0 x15_1) 0).f0)) ∧ w'.cell? ⟨ad382.block, ad382.off + 1, none⟩ = some (.int .i64 ((rd_T55 (rd_L7 l0_0 x15_1) 0).f1)) ∧ w'.cell? (ad383.add (((rd_T55 (rd_L7 l0_0 x15_1) 0).f0)).toNat) = some (.int .i64 (rd l1 ((rd_T55 (rd_L7 l0_0 x15_1) 0).f0))) ∧ w'.cell? ad382 = some (.int .i64 ((rd_T55 (rd_L7 l0_0 x15_1) 0).f0)) ∧ w'.cell? ⟨ad382.block, ad382.off + 1, none⟩ = some (.int .i64 ((rd_T55 (rd_L7 l0_0 x15_1) 0).f1))) (ds := []) #[false, false, false, false, false, false, false, false, false, false, false, false, false, false, false, false] (by kernel_rfl) rfl rfl ⟨((HB.out.cell (World.block_lt_of_cell? w _ hw382_0)).trans hw382_0), ((HB.out.cell (World.block_lt_of_cell? w _ hw382_1)).trans hw382_1), ((HB.out.cell (World.block_lt_of_cell? w _ hw383_0)).trans hw383_0), ((HB.out.cell (World.block_lt_of_cell? w _ hw384_0)).trans hw384_0), ((HB.out.cell (World.block_lt_of_cell? w _ hw384_1)).trans hw384_1)⟩ (fun hHeld => ?_); refine with_tabW impl_Seg_numbersOf.tab11 impl_Seg_numbersOf.bits11 (fun HT_ HW_ => ?_); generalize wr.drew = w32 at HO_6 BK371 HB hx382_0 hx382_1 hx383_0 hx384_0 hx384_1 hHeld ⊢; refine pure_y 0 (some 47) #[true, false, false, false, false, false, false, false, false, false, false, false, false, false, false, false] (any_of HT_.out (by kernel_rfl)) (h := ?_)
             refine pure_y 1 (some 48) #[true, true, false, false, false, false, false, false, false, false, false, false, false, false, false, false] (any_of HT_.out (by kernel_rfl)) (h := ?_)
             refine pure_y 2 (some 49) #[true, true, true, false, false, false, false, false, false, false, false, false, false, false, false, false] (any_of HT_.out (by kernel_rfl)) (h := ?_)
             refine pure_y 3 (some 50) #[true, true, true, true, false, false, false, false, false, false, false, false, false, false, false, false] (any_of HT_.out (by kernel_rfl)) (h := ?_)
             refine pure_y 4 (some 51) #[true, true, true, true, true, false, false, false, false, false, false, false, false, false, false, false] (any_of HT_.out (by kernel_rfl)) (h := ?_)
             refine pure_y 8 (some 55) #[true, true, true, true, true, false, false, false, true, false, false, false, false, false, false, false] (any_of HT_.out (by kernel_rfl)) (h := ?_)
             refine pure_y 9 (some 56) #[true, true, true, true, true, false, false, false, true, true, false, false, false, false, false, false] (any_of HT_.out (by kernel_rfl)) (h := ?_)
             refine pure_y 10 (some 57) #[true, true, true, true, true, false, false, false, true, true, true, false, false, false, false, false] (any_of HT_.out (by kernel_rfl)) (h := ?_)
             refine take_y 5 (some 52) #[true, true, true, true, true, true, false, false, true, true, true, false, false, false, false, false] rfl (take_ofW HT_.out HW_.out (by kernel_rfl)) hHeld (Or.inl ⟨by rfl, (by rintro w' ⟨s0, s1, s2, s3, s4⟩; go_simp; with_reducible rfl)⟩) (h := ?_)
             refine pure_y 6 (some 53) #[true, true, true, true, true, true, true, false, true, true, true, false, false, false, false, false] (any_of HT_.out (by kernel_rfl)) (h := ?_)
             refine take_y 7 (some 54) #[true, true, true, true, true, true, true, true, true, true, true, false, false, false, false, false] rfl (take_ofW HT_.out HW_.out (by kernel_rfl)) hHeld (Or.inl ⟨by rfl, (by rintro w' ⟨s0, s1, s2, s3, s4⟩; go_simp; with_reducible rfl)⟩) (h := ?_)
             refine take_y 11 (some 58) #[true, true, true, true, true, true, true, true, true, true, true, true, false, false, false, false] rfl (take_ofW HT_.out HW_.out (by kernel_rfl)) hHeld (Or.inl ⟨by rfl, (by rintro w' ⟨s0, s1, s2, s3, s4⟩; go_simp; with_reducible rfl)⟩) (h := ?_)
             refine pure_y 12 (some 59) #[true, true, true, true, true, true, true, true, true, true, true, true, true, false, false, false] (any_of HT_.out (by kernel_rfl)) (h := ?_)
             refine one_ (i := 13) (N := some 60) #[true, true, true, true, true, true, true, true, true, true, true, true, true, true, false, false] rfl rfl (one_of HT_.out (by kernel_rfl)) (by decide) (fun K hK => ?_); refine value_ (w1 := ?_) (v := ?_) (by rfl) rfl ?_ ?_; rotate_left 2
             ·
              go_simp
              constructor
              ·
               rfl
              ·
               rfl
             refine hK.out _ _ ⟨(World.cell?_alloc_lt _ _ _ (World.block_lt_of_cell? _ _ (((HB.out.cell (World.block_lt_of_cell? w _ hw382_0)).trans hw382_0)))).trans (((HB.out.cell (World.block_lt_of_cell? w _ hw382_0)).trans hw382_0)), (World.cell?_alloc_lt _ _ _ (World.block_lt_of_cell? _ _ (((HB.out.cell (World.block_lt_of_cell? w _ hw382_1)).trans hw382_1)))).trans (((HB.out.cell (World.block_lt_of_cell? w _ hw382_1)).trans hw382_1)), (World.cell?_alloc_lt _ _ _ (World.block_lt_of_cell? _ _ (((HB.out.cell (World.block_lt_of_cell? w _ hw383_0)).trans hw383_0)))).trans (((HB.out.cell (World.block_lt_of_cell? w _ hw383_0)).trans hw383_0)), (World.cell?_alloc_lt _ _ _ (World.block_lt_of_cell? _ _ (((HB.out.cell (World.block_lt_of_cell? w _ hw384_0)).trans hw384_0)))).trans (((HB.out.cell (World.block_lt_of_cell? w _ hw384_0)).trans hw384_0)), (World.cell?_alloc_lt _ _ _ (World.block_lt_of_cell? _ _ (((HB.out.cell (World.block_lt_of_cell? w _ hw384_1)).trans hw384_1)))).trans (((HB.out.cell (World.block_lt_of_cell? w _ hw384_1)).trans hw384_1))⟩ (fun hHeld => ?_); clear hK K; refine norm_y 60 (h := ?_)
             refine one_ (i := 14) (N := some 61) #[true, true, true, true, true, true, true, true, true, true, true, true, true, true, true, false] rfl rfl (one_of HT_.out (by kernel_rfl)) (by decide) (fun K hK => ?_); refine Kd.R_append_step (Kd.int .i64) (w0 := w) w.heap.size (by rfl) (.tmp 47) (.tmp 60) 36 3 (.int .i64 0) 8 rfl Tryd.underlying36 info3 rfl (by decide) (by omega) u6 x6_1 (wrap64 ((rd l1 ((rd_T55 (rd_L7 l0_0 x15_1) 0).f0)) + ((rd_T55 (rd_L7 l0_0 x15_1) 0).f1))) [.int .i64 (wrap64 ((rd l1 ((rd_T55 (rd_L7 l0_0 x15_1) 0).f0)) + ((rd_T55 (rd_L7 l0_0 x15_1) 0).f1)))] (fun _ => True) (fun _ => False) rfl rfl ?aP (fun _ hk => hk.elim) ?aF ?aO ?aB ?aS ?aL ?_
             (case aP => exact rfl)
             (case aB => exact (sq_below1 HB.out GE371.out))
             (case aF => exact (fun _ _ => trivial))
             (case aO => exact (sq_row HO_6.out))
             (case aS => exact (below_size (sq_below1 HB.out GE371.out)))
             (case aL => have := LMc31.out; omega)
             intro v386 w33 ho hb hg hat; rw [← Ny385.out] at ho; have n0_ := Aside0.mk (blk_grown (g := gb371) (o := .cells #[.slice (some ad375) l0_0.length c0_0, .slice A0_1 l0_1.length c0_1, .slice A0_2 l0_2.length c0_2] 32 (0, 0)) (sq_blk BK371.out) hg (Kd.R_ne HO_6.out BK371.out (by decide))); have n1_ := Aside0.mk (hb); have n2_ := Aside0.mk (ho); clear BK371 HB HO_6; have BK371 := n0_; have HB := n1_; have HO387 := n2_; clear n0_ n1_ n2_ ho hb hg hat; refine hK.out _ _ ⟨((HB.out.cell (World.block_lt_of_cell? w _ hw382_0)).trans hw382_0), ((HB.out.cell (World.block_lt_of_cell? w _ hw382_1)).trans hw382_1), ((HB.out.cell (World.block_lt_of_cell? w _ hw383_0)).trans hw383_0), ((HB.out.cell (World.block_lt_of_cell? w _ hw384_0)).trans hw384_0), ((HB.out.cell (World.block_lt_of_cell? w _ hw384_1)).trans hw384_1)⟩ (fun hHeld => ?_); clear hK K; refine norm_y 61 (h := ?_)
             refine pure_y 15 (some 6) #[true, true, true, true, true, true, true, true, true, true, true, true, true, true, true, true] (any_of HT_.out (by kernel_rfl)) (h := ?_)
             refine done_ (done_of HT_.out (by kernel_rfl)) ?_
             try go_wp2
             go_roundg k2
             case measure => have := HK1.out; have := HK2.out; omega
             case rel => exact ⟨(y385), (wrap64 (x15_1 + 1)), (by first | rfl | (simp; done) | (simp [*]; done)), H', ⟨by have := HK1.out; have := HK2.out; omega⟩, ⟨by (with_reducible repeat (first | apply Kd.R_alloc | apply Kd.R_drewN | apply Kd.R_drew)); exact HO387.out⟩, bk_ BK371, ⟨sq_below1 HB.out GE371.out⟩⟩
            ·
             rw [if_neg c31] at H; exact absurd H (by simp)
           ·
            rw [if_neg c30] at H; exact absurd H (by simp)
          ·
           rw [if_neg c29] at H; exact absurd H (by simp)
         ·
          rw [if_neg c28] at H; exact absurd H (by simp)
     ·
      rw [if_neg c9] at H; exact absurd H (by simp)
    ·
     rw [if_neg c8] at H; exact absurd H (by simp)
   ·
    rw [if_neg c7] at H; have c7b0 : decide (x15_1 < (l0_0.length : Int)) = false := decide_eq_false c7; clear c7; simp only [Option.some.injEq, Prod.mk.injEq] at H; obtain ⟨rfl, rfl⟩ := H
    go_wp2
    go_ret2
    exact ⟨_, by first | rfl | (simp [errW_none, errW_some] <;> rfl) | (simp [*, errW_none, errW_some] <;> rfl), by (with_reducible repeat (first | apply Kd.R_alloc | apply Kd.R_drewN | apply Kd.R_drew)); exact HO_6.out, sq_below1 HB.out GE371.out⟩

end Go.Proofs.YtfeloencepgdlaaDoor.Q
