/- Functions of the translation as Lean functions, each with a proof that a call answers so; out of the seat, by this claim's own program prt.py. -/
import Derived.Test.YtmibaaicadgchaaDoorWTab
import Derived.Test.YtmibaaicadgchaaDoorWRepsOne
import Derived.Test.YtmibaaicadgchaaDoorQx0
import Derived.Test.YtmibaaicadgchaaDoorQx23
import Derived.Test.YtmibaaicadgchaaDoorQx35
import Derived.Test.YtmibaaicadgchaaDoorQStep
namespace Go.Proofs.YtmibaaicadgchaaDoor.Q
open Go.RowKit Go.Proofs.YtmibaaicadgchaaDoorW.PrintWords Go.Proofs.YtmibaaicadgchaaDoorW.PrintLast Go.Proofs.YtmibaaicadgchaaDoorW.PrintMore
attribute [local go_sem] max2_int min2_int max_two min_two max_three min_three max_four min_four   -- for this text's walks alone
set_option linter.unusedVariables false
set_option linter.unusedSimpArgs false

/-! ### spec_ValJoin: function 37 -/
abbrev spec_ValJoin.b0_ : Array Bool := #[false, false, false, false, false, false, false, false, false, false, false, false, false]
abbrev spec_ValJoin.b1_ : Array Bool := #[true, false, false, false, false, false, false, false, false, false, false, false, false]
abbrev spec_ValJoin.b2_ : Array Bool := #[true, false, true, false, false, false, false, false, false, false, false, false, false]
abbrev spec_ValJoin.b3_ : Array Bool := #[true, false, true, false, false, true, false, false, false, false, false, false, false]
abbrev spec_ValJoin.b4_ : Array Bool := #[true, true, true, false, false, true, false, false, false, false, false, false, false]
abbrev spec_ValJoin.b5_ : Array Bool := #[true, true, true, true, false, true, false, false, false, false, false, false, false]
abbrev spec_ValJoin.b6_ : Array Bool := #[true, true, true, true, false, true, true, false, false, false, false, false, false]
abbrev spec_ValJoin.b7_ : Array Bool := #[true, true, true, true, true, true, true, false, false, false, false, false, false]
abbrev spec_ValJoin.b8_ : Array Bool := #[true, true, true, true, true, true, true, true, false, false, false, false, false]
abbrev spec_ValJoin.b9_ : Array Bool := #[true, true, true, true, true, true, true, true, true, false, false, false, false]
abbrev spec_ValJoin.b10_ : Array Bool := #[true, true, true, true, true, true, true, true, true, true, false, false, false]
abbrev spec_ValJoin.b11_ : Array Bool := #[true, true, true, true, true, true, true, true, true, true, true, false, false]
abbrev spec_ValJoin.b12_ : Array Bool := #[true, true, true, true, true, true, true, true, true, true, true, true, false]
abbrev spec_ValJoin.b13_ : Array Bool := #[true, true, true, true, true, true, true, true, true, true, true, true, true]
def spec_ValJoin.j0 : Nat → Bool → Int → Int → Bool → Int → Int → Bool → Option (Int × Int × Bool)
 | 0, _, _, _, _, _, _, _ => none
 | k + 1, x12, x685000, x685001, x685002, x686000, x686001, x686002 => if x12 = true then ((spec_l09None.f).bind fun bt689 => (some (bt689.1, bt689.2.1, bt689.2.2))) else ((spec_RangeJoin.f k x685000 x685001 x686000 x686001).bind fun bt692 => (if x685002 = true then (some (bt692.1, bt692.2, x686002)) else (some (bt692.1, bt692.2, false))))
def spec_ValJoin.f (k : Nat) (a0_0 : Int) (a0_1 : Int) (a0_2 : Bool) (a1_0 : Int) (a1_1 : Int) (a1_2 : Bool) : Option (Int × Int × Bool) := (spec_ValOk.f a0_0 a0_1 a0_2).bind fun t687 => (if t687 = true then ((spec_ValOk.f a1_0 a1_1 a1_2).bind fun t688 => (spec_ValJoin.j0 k (!t688) a0_0 a0_1 a0_2 a1_0 a1_1 a1_2)) else (spec_ValJoin.j0 k true a0_0 a0_1 a0_2 a1_0 a1_1 a1_2))
theorem spec_ValJoin.mono_l : ∀ k, (∀ y0 y1 y2 y3 y4 y5 y6, LeO (spec_ValJoin.j0 k y0 y1 y2 y3 y4 y5 y6) (spec_ValJoin.j0 (k + 1) y0 y1 y2 y3 y4 y5 y6))
 | 0 => fun _ _ _ _ _ _ _ r h => by simp [spec_ValJoin.j0] at h
 | k + 1 => by
  have ih0 := spec_ValJoin.mono_l k
  ·
   intro y0 y1 y2 y3 y4 y5 y6; unfold spec_ValJoin.j0
   repeat' first
   | (with_reducible exact ih0 _ _ _ _ _ _ _)
   | (with_reducible exact spec_RangeJoin.mono _ _ _ _ _)
   | (with_reducible exact LeO.refl _)
   | (with_reducible exact LeO.none _)
   | (with_reducible refine LeO.ite ?_ ?_)
   | (with_reducible refine LeO.bind ?_ (fun _ => ?_))
   | exact ih0 _ _ _ _ _ _ _
   | exact spec_RangeJoin.mono _ _ _ _ _
   | exact LeO.none _
   | refine LeO.ite ?_ ?_
   | refine LeO.bind ?_ (fun _ => ?_)
theorem spec_ValJoin.mono : ∀ a0 a1 a2 a3 a4 a5 k, LeO (spec_ValJoin.f k a0 a1 a2 a3 a4 a5) (spec_ValJoin.f (k + 1) a0 a1 a2 a3 a4 a5) := by
 intro a0 a1 a2 a3 a4 a5 k; have ih0 := spec_ValJoin.mono_l k; unfold spec_ValJoin.f
 repeat' first
   | (with_reducible exact ih0 _ _ _ _ _ _ _)
   | (with_reducible exact spec_RangeJoin.mono _ _ _ _ _)
   | (with_reducible exact LeO.refl _)
   | (with_reducible exact LeO.none _)
   | (with_reducible refine LeO.ite ?_ ?_)
   | (with_reducible refine LeO.bind ?_ (fun _ => ?_))
   | exact ih0 _ _ _ _ _ _ _
   | exact spec_RangeJoin.mono _ _ _ _ _
   | exact LeO.none _
   | refine LeO.ite ?_ ?_
   | refine LeO.bind ?_ (fun _ => ?_)
def spec_ValJoin.T3 : Bool × List (List Nat × List Nat) := (true, [([], []), ([0], [0]), ([], []), ([2], [2]), ([1, 3], [1, 3]), ([], []), ([5], [5]), ([6, 4], [6]), ([7], [7]), ([8, 7], [7, 8]), ([7, 9], [7, 9]), ([4, 10], [4, 10]), ([11, 7, 0, 1, 2, 3, 4, 5, 6, 7, 8, 9, 10, 11], [11])])
def spec_ValJoin.B3 : List Nat := [0, 1, 0, 4, 15, 0, 32, 127, 255, 511, 1023, 2047, 4095]
theorem spec_ValJoin.tab3 : rtab .any (opsOf Tryd.f37 3) = spec_ValJoin.T3 := by kernel_rfl
theorem spec_ValJoin.bits3 : waitsOk spec_ValJoin.T3.2 spec_ValJoin.B3 = true := by kernel_rfl
set_option maxHeartbeats 8000000 in
set_option maxRecDepth 100000 in
theorem spec_ValJoin.calls (k : Nat) (a0_0 : Int) (a0_1 : Int) (a0_2 : Bool) (a1_0 : Int) (a1_1 : Int) (a1_2 : Bool) (r1 : Int) (r2 : Int) (r3 : Bool) (w : World) (h : spec_ValJoin.f k a0_0 a0_1 a0_2 a1_0 a1_1 a1_2 = some (r1, r2, r3)) :
  Calls Tryd.prog 37 #[.agg #[.int .i64 a0_0, .int .i64 a0_1, .bool a0_2], .agg #[.int .i64 a1_0, .int .i64 a1_1, .bool a1_2]] w fun e w' => e = .returned (.agg #[.int .i64 r1, .int .i64 r2, .bool r3]) ∧ Below w.heap.size w w' := by
 have hu44 := Tryd.underlying44; have hu25 := Tryd.underlying25; have HB := Aside0.mk (Below.refl w.heap.size w); have H : ((spec_ValOk.f a0_0 a0_1 a0_2).bind fun t687 => (if t687 = true then ((spec_ValOk.f a1_0 a1_1 a1_2).bind fun t688 => (spec_ValJoin.j0 k (!t688) a0_0 a0_1 a0_2 a1_0 a1_1 a1_2)) else (spec_ValJoin.j0 k true a0_0 a0_1 a0_2 a1_0 a1_1 a1_2))) = some (r1, r2, r3) := h; clear h; have HC3 := Aside0.mk H; clear H
 go_enter Tryd.func37, Tryd.ntmps37
 go_upto_region 1 with (first | ((with_reducible refine gate_dst (N := 2) rfl ?_); refine box_y 2 #[.int .i64 a0_0, .int .i64 a0_1, .bool a0_2] 44 (h := ?_); intro gb684 hg w4 hbox hb; have n0_ := Aside0.mk (below_step (sq_below HB.out) hb); have n1_ := Aside0.mk (hbox); have n2_ := ge_ hg (below_size (sq_below HB.out)); have n3_ := ge_ hg (below_size (sq_below HB.out)); clear HB; have HB := n0_; have BK684 := n1_; have GW684 := n2_; have GE684 := n3_; clear n0_ n1_ n2_ n3_; clear hb hbox hg) | ((with_reducible refine gate_dst (N := 3) rfl ?_); refine box_y 3 #[.int .i64 a1_0, .int .i64 a1_1, .bool a1_2] 44 (h := ?_); intro gb685 hg w5 hbox hb; have n0_ := Aside0.mk (blk_below (sq_blk BK684.out) hb); have n1_ := Aside0.mk (below_step (sq_below1 HB.out GE684.out) hb); have n2_ := Aside0.mk (hbox); have n3_ := ge_ hg (below_size (sq_below1 HB.out GE684.out)); have n4_ := ge_ hg (below_size (sq_below1 HB.out GE684.out)); have n5_ := nb_ hg BK684; have n6_ := Aside0.mk (Ne.symm n5_.out); clear BK684; clear HB; have BK684 := n0_; have HB := n1_; have BK685 := n2_; have GW685 := n3_; have GE685 := n4_; have NB684_685 := n5_; have NB685_684 := n6_; clear n0_ n1_ n2_ n3_ n4_ n5_ n6_; clear hb hbox hg) | ((with_reducible refine gate_dst (N := 4) rfl ?_); refine box_y 4 #[.int .i64 0, .int .i64 0, .bool false] 44 (h := ?_); intro gb686 hg w6 hbox hb; have n0_ := Aside0.mk (blk_below (sq_blk BK684.out) hb); have n1_ := Aside0.mk (blk_below (sq_blk BK685.out) hb); have n2_ := Aside0.mk (below_step (sq_below2 HB.out GE684.out GE685.out) hb); have n3_ := Aside0.mk (hbox); have n4_ := ge_ hg (below_size (sq_below2 HB.out GE684.out GE685.out)); have n5_ := ge_ hg (below_size (sq_below2 HB.out GE684.out GE685.out)); have n6_ := nb_ hg BK684; have n7_ := Aside0.mk (Ne.symm n6_.out); have n8_ := nb_ hg BK685; have n9_ := Aside0.mk (Ne.symm n8_.out); clear BK684; clear BK685; clear HB; have BK684 := n0_; have BK685 := n1_; have HB := n2_; have BK686 := n3_; have GW686 := n4_; have GE686 := n5_; have NB684_686 := n6_; have NB686_684 := n7_; have NB685_686 := n8_; have NB686_685 := n9_; clear n0_ n1_ n2_ n3_ n4_ n5_ n6_ n7_ n8_ n9_; clear hb hbox hg))
 (try simp only [Act.put, List.setIfInBounds_toArray, List.set_cons_zero, List.set_cons_succ])
 go_cut [12] (fun v12 wc => ∃ (kq : Nat) (x12_2 : Bool), v12 = .bool x12_2 ∧ Aside0 (spec_ValJoin.j0 kq x12_2 a0_0 a0_1 a0_2 a1_0 a1_1 a1_2 = some (r1, r2, r3)) ∧ Aside0 (kq ≤ k) ∧ Aside0 (wc.heap[gb684]? = some (.cells #[.int .i64 a0_0, .int .i64 a0_1, .bool a0_2] 44 (0, 0))) ∧ Aside0 (wc.heap[gb685]? = some (.cells #[.int .i64 a1_0, .int .i64 a1_1, .bool a1_2] 44 (0, 0))) ∧ Aside0 (wc.heap[gb686]? = some (.cells #[.int .i64 0, .int .i64 0, .bool false] 44 (0, 0))) ∧ Aside0 (Below w.heap.size w wc))
 case first =>
  have H := HC3.out; clear HC3; replace H := Option.bind_eq_some_iff.mp H; obtain ⟨t687, A70, H⟩ := H; (try dsimp only at H); have A7 := Aside0.mk A70; clear A70
  by_cases c8 : t687 = true
  ·
   subst c8; have H1 := ifp_ H
   clear H; have H := H1; clear H1; replace H := Option.bind_eq_some_iff.mp H; obtain ⟨t688, A90, H⟩ := H; (try dsimp only at H); have A9 := Aside0.mk A90; clear A90; have H' := Aside0.mk H; clear H; have hnb10 := NB684_685.out; have hnc10 := NB685_684.out; have hnb11 := NB684_686.out; have hnc11 := NB686_684.out; have hcz12_0 := cl_ (v := .int .i64 a0_0) BK684 0; have hcz12_1 := cl_ (v := .int .i64 a0_1) BK684 1; have hcz12_2 := cl_ (v := .bool a0_2) BK684 2; have hfz12_0 := blk_frozen BK684.out 0; have hfz12_1 := blk_frozen BK684.out 1; have hfz12_2 := blk_frozen BK684.out 2
   go_wp2_with (first | ((with_reducible refine gate_callee (f := 41) rfl ?_); refine gl_ 6 Tryd.func41 #[.agg #[.int .i64 a0_0, .int .i64 a0_1, .bool a0_2]] (h := ?_); (with_reducible refine (spec_ValOk.calls a0_0 a0_1 a0_2 true _ A7.out).mono ?_); rintro e w13 ⟨rfl, hb⟩; refine ⟨_, rfl, ?_⟩; replace BK684 := bb_ BK684 hb; replace BK685 := bb_ BK685 hb; replace BK686 := bb_ BK686 hb; replace HB := hb3_ HB hb GE684 GE685 GE686; (try clear hb); have hnb14 := NB685_686.out; have hnc14 := NB686_685.out; have hcz15_0 := cl_ (v := .int .i64 a1_0) BK685 0; have hcz15_1 := cl_ (v := .int .i64 a1_1) BK685 1; have hcz15_2 := cl_ (v := .bool a1_2) BK685 2; have hfz15_0 := blk_frozen BK685.out 0; have hfz15_1 := blk_frozen BK685.out 1; have hfz15_2 := blk_frozen BK685.out 2) | (go_at_call 41; (with_reducible refine (spec_ValOk.calls a1_0 a1_1 a1_2 t688 _ A9.out).mono ?_); rintro e w16 ⟨rfl, hb⟩; replace BK684 := bb_ BK684 hb; replace BK685 := bb_ BK685 hb; replace BK686 := bb_ BK686 hb; replace HB := hb3_ HB hb GE684 GE685 GE686; (try clear hb)))
   go_meet
   case rel => exact ⟨_, (!t688), (by first | rfl | (simp; done) | (simp [*]; done)), H', ⟨by first | omega | exact Nat.le_refl _⟩, bk_ BK684, bk_ BK685, bk_ BK686, ⟨by repeat (first | (with_reducible first | exact HB.out | apply below_alloc | apply pw_below_drewN | apply below_drew1 | refine below_set ?_ GE684.out | refine below_set ?_ GE685.out | refine below_set ?_ GE686.out) | exact HB.out)⟩⟩
  ·
   replace c8 := Bool.eq_false_iff.mpr c8; subst c8; have H1 := ifn_ H
   clear H; have H := H1; clear H1; have H' := Aside0.mk H; clear H; have hnb17 := NB684_685.out; have hnc17 := NB685_684.out; have hnb18 := NB684_686.out; have hnc18 := NB686_684.out; have hcz19_0 := cl_ (v := .int .i64 a0_0) BK684 0; have hcz19_1 := cl_ (v := .int .i64 a0_1) BK684 1; have hcz19_2 := cl_ (v := .bool a0_2) BK684 2; have hfz19_0 := blk_frozen BK684.out 0; have hfz19_1 := blk_frozen BK684.out 1; have hfz19_2 := blk_frozen BK684.out 2
   go_wp2_with (first | ((with_reducible refine gate_callee (f := 41) rfl ?_); refine gl_ 6 Tryd.func41 #[.agg #[.int .i64 a0_0, .int .i64 a0_1, .bool a0_2]] (h := ?_); (with_reducible refine (spec_ValOk.calls a0_0 a0_1 a0_2 false _ A7.out).mono ?_); rintro e w20 ⟨rfl, hb⟩; refine ⟨_, rfl, ?_⟩; replace BK684 := bb_ BK684 hb; replace BK685 := bb_ BK685 hb; replace BK686 := bb_ BK686 hb; replace HB := hb3_ HB hb GE684 GE685 GE686; (try clear hb)))
   go_meet
   case rel => exact ⟨_, (true), (by first | rfl | (simp; done) | (simp [*]; done)), H', ⟨by first | omega | exact Nat.le_refl _⟩, bk_ BK684, bk_ BK685, bk_ BK686, ⟨by repeat (first | (with_reducible first | exact HB.out | apply below_alloc | apply pw_below_drewN | apply below_drew1 | refine below_set ?_ GE684.out | refine below_set ?_ GE685.out | refine below_set ?_ GE686.out) | exact HB.out)⟩⟩
 case rest =>
  clear HC3
  try clear c1
  try clear p2
  try clear c3
  try clear c4
  try clear c8
  try clear c10
  try clear c11
  try clear c14
  try clear c17
  try clear c18
  try clear hcz12_0
  try clear hcz12_1
  try clear hcz12_2
  try clear hcz15_0
  try clear hcz15_1
  try clear hcz15_2
  try clear hcz19_0
  try clear hcz19_1
  try clear hcz19_2
  try clear hfz12_0
  try clear hfz12_1
  try clear hfz12_2
  try clear hfz15_0
  try clear hfz15_1
  try clear hfz15_2
  try clear hfz19_0
  try clear hfz19_1
  try clear hfz19_2
  obtain ⟨kq, x12_2, rfl, HA, HJ2, BK684, BK685, BK686, HB⟩ := hcut; cases kq with
  | zero => exact absurd HA.out (by simp [spec_ValJoin.j0])
  | succ kj2 =>
   have H := HA.out; clear HA; simp only [spec_ValJoin.j0] at H
   by_cases c21 : x12_2 = true
   ·
    subst c21; have H1 := ifp_ H
    clear H; have H := H1; clear H1; replace H := Option.bind_eq_some_iff.mp H; obtain ⟨⟨t689, t690, t691⟩, A220, H⟩ := H; replace H : (some (t689, t690, t691)) = some (r1, r2, r3) := H; have A22 := Aside0.mk A220; clear A220; simp only [Option.some.injEq, Prod.mk.injEq] at H; obtain ⟨rfl, rfl, rfl⟩ := H
    go_wp2_with (first | ((with_reducible refine gate_callee (f := 70) rfl ?_); refine gl_ 13 Tryd.func70 #[] (h := ?_); (with_reducible refine (spec_l09None.calls  t689 t690 t691 _ A22.out).mono ?_); rintro e w23 ⟨rfl, hb⟩; refine ⟨_, rfl, ?_⟩; replace BK686 := bb_ BK686 hb; replace HB := hb1_ HB hb GE686; (try clear hb); have hcz24_0 := cl_ (v := .int .i64 0) BK686 0; have hcz24_1 := cl_ (v := .int .i64 0) BK686 1; have hcz24_2 := cl_ (v := .bool false) BK686 2; have hfz24_0 := blk_frozen BK686.out 0; have hfz24_1 := blk_frozen BK686.out 1; have hfz24_2 := blk_frozen BK686.out 2))
    refine bodyPost_ret (results_cell_row rfl _ _ gb686 44 #[.int .i64 t689, .int .i64 t690, .bool t691] (0, 0) _ rfl (bp_ BK686) Tryd.underlying44 rfl (by kernel_rfl)) rfl ?_; exact ⟨by first | rfl | (simp [errW_none, errW_some] <;> rfl) | (simp [*, errW_none, errW_some] <;> rfl), by repeat (first | (with_reducible first | exact HB.out | apply below_alloc | apply pw_below_drewN | apply below_drew1 | refine below_set ?_ GE686.out) | exact HB.out)⟩
   ·
    replace c21 := Bool.eq_false_iff.mpr c21; subst c21; have H1 := ifn_ H
    clear H; have H := H1; clear H1; replace H := Option.bind_eq_some_iff.mp H; obtain ⟨⟨t692, t693⟩, A250, H⟩ := H; (try dsimp only at H); have A25 := Aside0.mk A250; clear A250
    by_cases c26 : a0_2 = true
    ·
     subst c26; have H1 := ifp_ H
     clear H; have H := H1; clear H1; simp only [Option.some.injEq, Prod.mk.injEq] at H; obtain ⟨rfl, rfl, rfl⟩ := H
     try go_wp2
     replace BK684 := bd_ BK684; replace BK685 := bd_ BK685; replace BK686 := bd_ BK686; replace HB := hd_ HB; refine start_ (n := 13) (S := fun w' => w'.cell? ⟨gb684, 0, none⟩ = some (.int .i64 a0_0) ∧ w'.cell? ⟨gb684, 1, none⟩ = some (.int .i64 a0_1) ∧ w'.cell? ⟨gb684, 2, none⟩ = some (.bool true) ∧ w'.cell? ⟨gb685, 0, none⟩ = some (.int .i64 a1_0) ∧ w'.cell? ⟨gb685, 1, none⟩ = some (.int .i64 a1_1) ∧ w'.cell? ⟨gb685, 2, none⟩ = some (.bool a1_2)) (ds := []) spec_ValJoin.b0_ (by kernel_rfl) rfl rfl ⟨cl_ BK684 0, cl_ BK684 1, cl_ BK684 2, cl_ BK685 0, cl_ BK685 1, cl_ BK685 2⟩ (fun hHeld => ?_); refine with_tabW spec_ValJoin.tab3 spec_ValJoin.bits3 (fun HT_ HW_ => ?_); generalize wc.drew = w27 at BK684 BK685 BK686 HB hHeld ⊢; refine pure_y 0 (some 14) spec_ValJoin.b1_ (any_of HT_.out (by kernel_rfl)) (h := ?_)
     refine pure_y 2 (some 16) spec_ValJoin.b2_ (any_of HT_.out (by kernel_rfl)) (h := ?_)
     refine pure_y 5 (some 19) spec_ValJoin.b3_ (any_of HT_.out (by kernel_rfl)) (h := ?_)
     refine take_y 1 (some 15) spec_ValJoin.b4_ rfl (take_ofW HT_.out HW_.out (by kernel_rfl)) hHeld (Or.inl ⟨by rfl, (by rintro w' ⟨s0, s1, s2, s3, s4, s5⟩; go_simp; with_reducible rfl)⟩) (h := ?_)
     refine take_y 3 (some 17) spec_ValJoin.b5_ rfl (take_ofW HT_.out HW_.out (by kernel_rfl)) hHeld (Or.inl ⟨by rfl, (by rintro w' ⟨s0, s1, s2, s3, s4, s5⟩; go_simp; with_reducible rfl)⟩) (h := ?_)
     refine take_y 6 (some 20) spec_ValJoin.b6_ rfl (take_ofW HT_.out HW_.out (by kernel_rfl)) hHeld (Or.inl ⟨by rfl, (by rintro w' ⟨s0, s1, s2, s3, s4, s5⟩; go_simp; with_reducible rfl)⟩) (h := ?_)
     refine one_ (i := 4) (N := some 18) spec_ValJoin.b7_ rfl rfl (one_of HT_.out (by kernel_rfl)) (by decide) (fun K hK => ?_); refine gs_ Tryd.func25 #[.agg #[.int .i64 a0_0, .int .i64 a0_1], .agg #[.int .i64 a1_0, .int .i64 a1_1]] (h := ?_); with_reducible refine (spec_RangeJoin.calls kj2 a0_0 a0_1 a1_0 a1_1 t692 t693 _ A25.out).mono ?_
     rintro e w28 ⟨rfl, hb⟩; refine ⟨_, rfl, ?_⟩; replace BK684 := bb_ BK684 hb; replace BK685 := bb_ BK685 hb; replace BK686 := bb_ BK686 hb; replace HB := hb3_ HB hb GE684 GE685 GE686
     (try clear hb)
     (try clear hb2)
     (try clear hk)
     (try clear hi)
     refine hK.out _ _ ⟨cl_ BK684 0, cl_ BK684 1, cl_ BK684 2, cl_ BK685 0, cl_ BK685 1, cl_ BK685 2⟩ (fun hHeld => ?_); clear hK K; refine norm_y (h := ?_)
     refine pure_y 7 (some 21) spec_ValJoin.b8_ (any_of HT_.out (by kernel_rfl)) (h := ?_)
     refine pure_y 8 (some 22) spec_ValJoin.b9_ (any_of HT_.out (by kernel_rfl)) (h := ?_)
     refine take_y 9 (some 23) spec_ValJoin.b10_ rfl (take_ofW HT_.out HW_.out (by kernel_rfl)) hHeld (Or.inl ⟨by rfl, (by rintro w' ⟨s0, s1, s2, s3, s4, s5⟩; go_simp; with_reducible rfl)⟩) (h := ?_)
     refine pure_y 10 (some 24) spec_ValJoin.b11_ (any_of HT_.out (by kernel_rfl)) (h := ?_)
     refine pure_y 11 (some 25) spec_ValJoin.b12_ (any_of HT_.out (by kernel_rfl)) (h := ?_)
     refine one_ (i := 12) (N := none) spec_ValJoin.b13_ rfl rfl (one_of HT_.out (by kernel_rfl)) (by decide) (fun K hK => ?_); have hs29 : w28.cell? ⟨gb686, 0, none⟩ = some (.int .i64 0) := (blk_cell BK686.out 0).trans rfl; have hfs29 := blk_frozen BK686.out 0; have hns29_0 := NB684_686.out; have hns29_1 := NB685_686.out; have hms29_0 := NB686_684.out; have hms29_1 := NB686_685.out; have hs30 : w28.cell? ⟨gb686, 1, none⟩ = some (.int .i64 0) := (blk_cell BK686.out 1).trans rfl; have hfs30 := blk_frozen BK686.out 1; have hns30_0 := NB684_686.out; have hns30_1 := NB685_686.out; have hms30_0 := NB686_684.out; have hms30_1 := NB686_685.out; have hs31 : w28.cell? ⟨gb686, 2, none⟩ = some (.bool false) := (blk_cell BK686.out 2).trans rfl; have hfs31 := blk_frozen BK686.out 2; have hns31_0 := NB684_686.out; have hns31_1 := NB685_686.out; have hms31_0 := NB686_684.out; have hms31_1 := NB686_685.out; refine skip_ (w1 := ?_) (by rfl) rfl ?_ ?_; rotate_left
     ·
      go_simp; rfl
     refine hK.out _ _ ⟨((cell_far (p := ⟨gb686, _, none⟩) NB684_686.out _).trans (((cell_far (p := ⟨gb686, _, none⟩) NB684_686.out _).trans (((cell_far (p := ⟨gb686, _, none⟩) NB684_686.out _).trans (hHeld.1)))))), ((cell_far (p := ⟨gb686, _, none⟩) NB684_686.out _).trans (((cell_far (p := ⟨gb686, _, none⟩) NB684_686.out _).trans (((cell_far (p := ⟨gb686, _, none⟩) NB684_686.out _).trans (hHeld.2.1)))))), ((cell_far (p := ⟨gb686, _, none⟩) NB684_686.out _).trans (((cell_far (p := ⟨gb686, _, none⟩) NB684_686.out _).trans (((cell_far (p := ⟨gb686, _, none⟩) NB684_686.out _).trans (hHeld.2.2.1)))))), ((cell_far (p := ⟨gb686, _, none⟩) NB685_686.out _).trans (((cell_far (p := ⟨gb686, _, none⟩) NB685_686.out _).trans (((cell_far (p := ⟨gb686, _, none⟩) NB685_686.out _).trans (hHeld.2.2.2.1)))))), ((cell_far (p := ⟨gb686, _, none⟩) NB685_686.out _).trans (((cell_far (p := ⟨gb686, _, none⟩) NB685_686.out _).trans (((cell_far (p := ⟨gb686, _, none⟩) NB685_686.out _).trans (hHeld.2.2.2.2.1)))))), ((cell_far (p := ⟨gb686, _, none⟩) NB685_686.out _).trans (((cell_far (p := ⟨gb686, _, none⟩) NB685_686.out _).trans (((cell_far (p := ⟨gb686, _, none⟩) NB685_686.out _).trans (hHeld.2.2.2.2.2))))))⟩ (fun hHeld => ?_); clear hK K; refine done_ (done_of HT_.out (by kernel_rfl)) ?_
     try go_wp2
     refine bodyPost_ret (results_cell_row rfl _ _ gb686 44 #[.int .i64 t692, .int .i64 t693, .bool a1_2] (0, 0) _ rfl (bp_ BK686) Tryd.underlying44 rfl (by kernel_rfl)) rfl ?_; exact ⟨by first | rfl | (simp [errW_none, errW_some] <;> rfl) | (simp [*, errW_none, errW_some] <;> rfl), by repeat (first | (with_reducible first | exact HB.out | apply below_alloc | apply pw_below_drewN | apply below_drew1 | refine below_set ?_ GE684.out | refine below_set ?_ GE685.out | refine below_set ?_ GE686.out) | exact HB.out)⟩
    ·
     replace c26 := Bool.eq_false_iff.mpr c26; subst c26; have H1 := ifn_ H
     clear H; have H := H1; clear H1; simp only [Option.some.injEq, Prod.mk.injEq] at H; obtain ⟨rfl, rfl, rfl⟩ := H
     try go_wp2
     replace BK684 := bd_ BK684; replace BK685 := bd_ BK685; replace BK686 := bd_ BK686; replace HB := hd_ HB; refine start_ (n := 13) (S := fun w' => w'.cell? ⟨gb684, 0, none⟩ = some (.int .i64 a0_0) ∧ w'.cell? ⟨gb684, 1, none⟩ = some (.int .i64 a0_1) ∧ w'.cell? ⟨gb684, 2, none⟩ = some (.bool false) ∧ w'.cell? ⟨gb685, 0, none⟩ = some (.int .i64 a1_0) ∧ w'.cell? ⟨gb685, 1, none⟩ = some (.int .i64 a1_1) ∧ w'.cell? ⟨gb685, 2, none⟩ = some (.bool a1_2)) (ds := []) spec_ValJoin.b0_ (by kernel_rfl) rfl rfl ⟨cl_ BK684 0, cl_ BK684 1, cl_ BK684 2, cl_ BK685 0, cl_ BK685 1, cl_ BK685 2⟩ (fun hHeld => ?_); refine with_tabW spec_ValJoin.tab3 spec_ValJoin.bits3 (fun HT_ HW_ => ?_); generalize wc.drew = w32 at BK684 BK685 BK686 HB hHeld ⊢; refine pure_y 0 (some 14) spec_ValJoin.b1_ (any_of HT_.out (by kernel_rfl)) (h := ?_)
     refine pure_y 2 (some 16) spec_ValJoin.b2_ (any_of HT_.out (by kernel_rfl)) (h := ?_)
     refine pure_y 5 (some 19) spec_ValJoin.b3_ (any_of HT_.out (by kernel_rfl)) (h := ?_)
     refine take_y 1 (some 15) spec_ValJoin.b4_ rfl (take_ofW HT_.out HW_.out (by kernel_rfl)) hHeld (Or.inl ⟨by rfl, (by rintro w' ⟨s0, s1, s2, s3, s4, s5⟩; go_simp; with_reducible rfl)⟩) (h := ?_)
     refine take_y 3 (some 17) spec_ValJoin.b5_ rfl (take_ofW HT_.out HW_.out (by kernel_rfl)) hHeld (Or.inl ⟨by rfl, (by rintro w' ⟨s0, s1, s2, s3, s4, s5⟩; go_simp; with_reducible rfl)⟩) (h := ?_)
     refine take_y 6 (some 20) spec_ValJoin.b6_ rfl (take_ofW HT_.out HW_.out (by kernel_rfl)) hHeld (Or.inl ⟨by rfl, (by rintro w' ⟨s0, s1, s2, s3, s4, s5⟩; go_simp; with_reducible rfl)⟩) (h := ?_)
     refine one_ (i := 4) (N := some 18) spec_ValJoin.b7_ rfl rfl (one_of HT_.out (by kernel_rfl)) (by decide) (fun K hK => ?_); refine gs_ Tryd.func25 #[.agg #[.int .i64 a0_0, .int .i64 a0_1], .agg #[.int .i64 a1_0, .int .i64 a1_1]] (h := ?_); with_reducible refine (spec_RangeJoin.calls kj2 a0_0 a0_1 a1_0 a1_1 t692 t693 _ A25.out).mono ?_
     rintro e w33 ⟨rfl, hb⟩; refine ⟨_, rfl, ?_⟩; replace BK684 := bb_ BK684 hb; replace BK685 := bb_ BK685 hb; replace BK686 := bb_ BK686 hb; replace HB := hb3_ HB hb GE684 GE685 GE686
     (try clear hb)
     (try clear hb2)
     (try clear hk)
     (try clear hi)
     refine hK.out _ _ ⟨cl_ BK684 0, cl_ BK684 1, cl_ BK684 2, cl_ BK685 0, cl_ BK685 1, cl_ BK685 2⟩ (fun hHeld => ?_); clear hK K; refine norm_y (h := ?_)
     refine pure_y 7 (some 21) spec_ValJoin.b8_ (any_of HT_.out (by kernel_rfl)) (h := ?_)
     refine pure_n 8 (some 22) spec_ValJoin.b9_ (any_of HT_.out (by kernel_rfl)) (h := ?_)
     refine pure_n 9 (some 23) spec_ValJoin.b10_ (any_of HT_.out (by kernel_rfl)) (h := ?_)
     refine pure_y 10 (some 24) spec_ValJoin.b11_ (any_of HT_.out (by kernel_rfl)) (h := ?_)
     refine pure_y 11 (some 25) spec_ValJoin.b12_ (any_of HT_.out (by kernel_rfl)) (h := ?_)
     refine one_ (i := 12) (N := none) spec_ValJoin.b13_ rfl rfl (one_of HT_.out (by kernel_rfl)) (by decide) (fun K hK => ?_); have hs34 : w33.cell? ⟨gb686, 0, none⟩ = some (.int .i64 0) := (blk_cell BK686.out 0).trans rfl; have hfs34 := blk_frozen BK686.out 0; have hns34_0 := NB684_686.out; have hns34_1 := NB685_686.out; have hms34_0 := NB686_684.out; have hms34_1 := NB686_685.out; have hs35 : w33.cell? ⟨gb686, 1, none⟩ = some (.int .i64 0) := (blk_cell BK686.out 1).trans rfl; have hfs35 := blk_frozen BK686.out 1; have hns35_0 := NB684_686.out; have hns35_1 := NB685_686.out; have hms35_0 := NB686_684.out; have hms35_1 := NB686_685.out; have hs36 : w33.cell? ⟨gb686, 2, none⟩ = some (.bool false) := (blk_cell BK686.out 2).trans rfl; have hfs36 := blk_frozen BK686.out 2; have hns36_0 := NB684_686.out; have hns36_1 := NB685_686.out; have hms36_0 := NB686_684.out; have hms36_1 := NB686_685.out; refine skip_ (w1 := ?_) (by rfl) rfl ?_ ?_; rotate_left
     ·
      go_simp; rfl
     refine hK.out _ _ ⟨((cell_far (p := ⟨gb686, _, none⟩) NB684_686.out _).trans (((cell_far (p := ⟨gb686, _, none⟩) NB684_686.out _).trans (((cell_far (p := ⟨gb686, _, none⟩) NB684_686.out _).trans (hHeld.1)))))), ((cell_far (p := ⟨gb686, _, none⟩) NB684_686.out _).trans (((cell_far (p := ⟨gb686, _, none⟩) NB684_686.out _).trans (((cell_far (p := ⟨gb686, _, none⟩) NB684_686.out _).trans (hHeld.2.1)))))), ((cell_far (p := ⟨gb686, _, none⟩) NB684_686.out _).trans (((cell_far (p := ⟨gb686, _, none⟩) NB684_686.out _).trans (((cell_far (p := ⟨gb686, _, none⟩) NB684_686.out _).trans (hHeld.2.2.1)))))), ((cell_far (p := ⟨gb686, _, none⟩) NB685_686.out _).trans (((cell_far (p := ⟨gb686, _, none⟩) NB685_686.out _).trans (((cell_far (p := ⟨gb686, _, none⟩) NB685_686.out _).trans (hHeld.2.2.2.1)))))), ((cell_far (p := ⟨gb686, _, none⟩) NB685_686.out _).trans (((cell_far (p := ⟨gb686, _, none⟩) NB685_686.out _).trans (((cell_far (p := ⟨gb686, _, none⟩) NB685_686.out _).trans (hHeld.2.2.2.2.1)))))), ((cell_far (p := ⟨gb686, _, none⟩) NB685_686.out _).trans (((cell_far (p := ⟨gb686, _, none⟩) NB685_686.out _).trans (((cell_far (p := ⟨gb686, _, none⟩) NB685_686.out _).trans (hHeld.2.2.2.2.2))))))⟩ (fun hHeld => ?_); clear hK K; refine done_ (done_of HT_.out (by kernel_rfl)) ?_
     try go_wp2
     refine bodyPost_ret (results_cell_row rfl _ _ gb686 44 #[.int .i64 t692, .int .i64 t693, .bool false] (0, 0) _ rfl (bp_ BK686) Tryd.underlying44 rfl (by kernel_rfl)) rfl ?_; exact ⟨by first | rfl | (simp [errW_none, errW_some] <;> rfl) | (simp [*, errW_none, errW_some] <;> rfl), by repeat (first | (with_reducible first | exact HB.out | apply below_alloc | apply pw_below_drewN | apply below_drew1 | refine below_set ?_ GE684.out | refine below_set ?_ GE685.out | refine below_set ?_ GE686.out) | exact HB.out)⟩

end Go.Proofs.YtmibaaicadgchaaDoor.Q
