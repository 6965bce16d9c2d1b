/- Functions of the translation as Lean functions, each with a proof that a call answers so; out of the seat, by this claim's own program prt.py. -/
import Derived.Test.YtmibaaicadgchaaDoorWTab
import Derived.Test.YtmibaaicadgchaaDoorWRepsOne
import Derived.Test.YtmibaaicadgchaaDoorQx0
import Derived.Test.YtmibaaicadgchaaDoorQx3
import Derived.Test.YtmibaaicadgchaaDoorQx5
import Derived.Test.YtmibaaicadgchaaDoorQx6
import Derived.Test.YtmibaaicadgchaaDoorQStep
namespace Go.Proofs.YtmibaaicadgchaaDoor.Q
open Go.RowKit Go.Proofs.YtmibaaicadgchaaDoorW.PrintWords Go.Proofs.YtmibaaicadgchaaDoorW.PrintLast Go.Proofs.YtmibaaicadgchaaDoorW.PrintMore
attribute [local go_sem] max2_int min2_int max_two min_two max_three min_three max_four min_four   -- for this text's walks alone
set_option linter.unusedVariables false
set_option linter.unusedSimpArgs false

/-! ### spec_RangeJoin: function 25 -/
def spec_RangeJoin.j0 : Nat → Bool → Int → Int → Int → Int → Option (Int × Int)
 | 0, _, _, _, _, _ => none
 | k + 1, x5, x457000, x457001, x458000, x458001 => if x5 = true then ((spec_l06None.f).bind fun bt461 => (some (bt461.1, bt461.2))) else ((spec_l06Is.f x457000 x457001).bind fun t463 => (if t463 = true then ((spec_l06Is.f x458000 x458001).bind fun t464 => (if t464 = true then ((spec_l06Min.f x457000 x458000).bind fun t465 => ((spec_l06Max.f x457001 x458001).bind fun t466 => ((spec_l06Make.f t465 t466).bind fun bt467 => (some (bt467.1, bt467.2))))) else (some (x457000, x457001)))) else (some (x458000, x458001))))
def spec_RangeJoin.f (k : Nat) (a0_0 : Int) (a0_1 : Int) (a1_0 : Int) (a1_1 : Int) : Option (Int × Int) := (spec_RangeOk.f a0_0 a0_1).bind fun t459 => (if t459 = true then ((spec_RangeOk.f a1_0 a1_1).bind fun t460 => (spec_RangeJoin.j0 k (!t460) a0_0 a0_1 a1_0 a1_1)) else (spec_RangeJoin.j0 k true a0_0 a0_1 a1_0 a1_1))
theorem spec_RangeJoin.mono_l : ∀ k, (∀ y0 y1 y2 y3 y4, LeO (spec_RangeJoin.j0 k y0 y1 y2 y3 y4) (spec_RangeJoin.j0 (k + 1) y0 y1 y2 y3 y4))
 | 0 => fun _ _ _ _ _ r h => by simp [spec_RangeJoin.j0] at h
 | k + 1 => by
  have ih0 := spec_RangeJoin.mono_l k
  ·
   intro y0 y1 y2 y3 y4; unfold spec_RangeJoin.j0
   repeat' first
   | (with_reducible exact ih0 _ _ _ _ _)
   | (with_reducible exact LeO.refl _)
   | (with_reducible exact LeO.none _)
   | (with_reducible refine LeO.ite ?_ ?_)
   | (with_reducible refine LeO.bind ?_ (fun _ => ?_))
   | exact ih0 _ _ _ _ _
   | exact LeO.none _
   | refine LeO.ite ?_ ?_
   | refine LeO.bind ?_ (fun _ => ?_)
theorem spec_RangeJoin.mono : ∀ a0 a1 a2 a3 k, LeO (spec_RangeJoin.f k a0 a1 a2 a3) (spec_RangeJoin.f (k + 1) a0 a1 a2 a3) := by
 intro a0 a1 a2 a3 k; have ih0 := spec_RangeJoin.mono_l k; unfold spec_RangeJoin.f
 repeat' first
   | (with_reducible exact ih0 _ _ _ _ _)
   | (with_reducible exact LeO.refl _)
   | (with_reducible exact LeO.none _)
   | (with_reducible refine LeO.ite ?_ ?_)
   | (with_reducible refine LeO.bind ?_ (fun _ => ?_))
   | exact ih0 _ _ _ _ _
   | exact LeO.none _
   | refine LeO.ite ?_ ?_
   | refine LeO.bind ?_ (fun _ => ?_)
def spec_RangeJoin.T7 : Bool × List (List Nat × List Nat) := (true, [([], []), ([0], [0]), ([], []), ([2], [2]), ([1, 3], [1, 3]), ([], []), ([5], [5]), ([], []), ([7], [7]), ([6, 8, 4], [6, 8]), ([4, 9, 9], [4, 9]), ([10, 10, 0, 1, 2, 3, 4, 5, 6, 7, 8, 9, 10], [10])])
def spec_RangeJoin.B7 : List Nat := [0, 1, 0, 4, 15, 0, 32, 0, 128, 511, 1023, 2047]
theorem spec_RangeJoin.tab7 : rtab .any (opsOf Tryd.f25 7) = spec_RangeJoin.T7 := by kernel_rfl
theorem spec_RangeJoin.bits7 : waitsOk spec_RangeJoin.T7.2 spec_RangeJoin.B7 = true := by kernel_rfl
set_option maxHeartbeats 8000000 in
set_option maxRecDepth 100000 in
theorem spec_RangeJoin.calls (k : Nat) (a0_0 : Int) (a0_1 : Int) (a1_0 : Int) (a1_1 : Int) (r1 : Int) (r2 : Int) (w : World) (h : spec_RangeJoin.f k a0_0 a0_1 a1_0 a1_1 = some (r1, r2)) :
  Calls Tryd.prog 25 #[.agg #[.int .i64 a0_0, .int .i64 a0_1], .agg #[.int .i64 a1_0, .int .i64 a1_1]] w fun e w' => e = .returned (.agg #[.int .i64 r1, .int .i64 r2]) ∧ Below w.heap.size w w' := by
 have hu25 := Tryd.underlying25; have HB := Aside0.mk (Below.refl w.heap.size w); have H : ((spec_RangeOk.f a0_0 a0_1).bind fun t459 => (if t459 = true then ((spec_RangeOk.f a1_0 a1_1).bind fun t460 => (spec_RangeJoin.j0 k (!t460) a0_0 a0_1 a1_0 a1_1)) else (spec_RangeJoin.j0 k true a0_0 a0_1 a1_0 a1_1))) = some (r1, r2) := h; clear h; have HC3 := Aside0.mk H; clear H
 go_enter Tryd.func25, Tryd.ntmps25
 go_upto_region 1 with (first | ((with_reducible refine gate_dst (N := 2) rfl ?_); refine box_y 2 #[.int .i64 a0_0, .int .i64 a0_1] 25 (h := ?_); intro gb456 hg w4 hbox hb; have n0_ := Aside0.mk (below_step (sq_below HB.out) hb); have n1_ := Aside0.mk (hbox); have n2_ := ge_ hg (below_size (sq_below HB.out)); have n3_ := ge_ hg (below_size (sq_below HB.out)); clear HB; have HB := n0_; have BK456 := n1_; have GW456 := n2_; have GE456 := n3_; clear n0_ n1_ n2_ n3_; clear hb hbox hg) | ((with_reducible refine gate_dst (N := 3) rfl ?_); refine box_y 3 #[.int .i64 a1_0, .int .i64 a1_1] 25 (h := ?_); intro gb457 hg w5 hbox hb; have n0_ := Aside0.mk (blk_below (sq_blk BK456.out) hb); have n1_ := Aside0.mk (below_step (sq_below1 HB.out GE456.out) hb); have n2_ := Aside0.mk (hbox); have n3_ := ge_ hg (below_size (sq_below1 HB.out GE456.out)); have n4_ := ge_ hg (below_size (sq_below1 HB.out GE456.out)); have n5_ := nb_ hg BK456; have n6_ := Aside0.mk (Ne.symm n5_.out); clear BK456; clear HB; have BK456 := n0_; have HB := n1_; have BK457 := n2_; have GW457 := n3_; have GE457 := n4_; have NB456_457 := n5_; have NB457_456 := n6_; clear n0_ n1_ n2_ n3_ n4_ n5_ n6_; clear hb hbox hg) | ((with_reducible refine gate_dst (N := 4) rfl ?_); refine box_y 4 #[.int .i64 0, .int .i64 0] 25 (h := ?_); intro gb458 hg w6 hbox hb; have n0_ := Aside0.mk (blk_below (sq_blk BK456.out) hb); have n1_ := Aside0.mk (blk_below (sq_blk BK457.out) hb); have n2_ := Aside0.mk (below_step (sq_below2 HB.out GE456.out GE457.out) hb); have n3_ := Aside0.mk (hbox); have n4_ := ge_ hg (below_size (sq_below2 HB.out GE456.out GE457.out)); have n5_ := ge_ hg (below_size (sq_below2 HB.out GE456.out GE457.out)); have n6_ := nb_ hg BK456; have n7_ := Aside0.mk (Ne.symm n6_.out); have n8_ := nb_ hg BK457; have n9_ := Aside0.mk (Ne.symm n8_.out); clear BK456; clear BK457; clear HB; have BK456 := n0_; have BK457 := n1_; have HB := n2_; have BK458 := n3_; have GW458 := n4_; have GE458 := n5_; have NB456_458 := n6_; have NB458_456 := n7_; have NB457_458 := n8_; have NB458_457 := n9_; clear n0_ n1_ n2_ n3_ n4_ n5_ n6_ n7_ n8_ n9_; clear hb hbox hg))
 (try simp only [Act.put, List.setIfInBounds_toArray, List.set_cons_zero, List.set_cons_succ])
 go_cut [5] (fun v5 wc => ∃ (kq : Nat) (x5_2 : Bool), v5 = .bool x5_2 ∧ Aside0 (spec_RangeJoin.j0 kq x5_2 a0_0 a0_1 a1_0 a1_1 = some (r1, r2)) ∧ Aside0 (kq ≤ k) ∧ Aside0 (wc.heap[gb456]? = some (.cells #[.int .i64 a0_0, .int .i64 a0_1] 25 (0, 0))) ∧ Aside0 (wc.heap[gb457]? = some (.cells #[.int .i64 a1_0, .int .i64 a1_1] 25 (0, 0))) ∧ Aside0 (wc.heap[gb458]? = some (.cells #[.int .i64 0, .int .i64 0] 25 (0, 0))) ∧ Aside0 (Below w.heap.size w wc))
 case first =>
  have H := HC3.out; clear HC3; replace H := Option.bind_eq_some_iff.mp H; obtain ⟨t459, A70, H⟩ := H; (try dsimp only at H); have A7 := Aside0.mk A70; clear A70
  by_cases c8 : t459 = true
  ·
   subst c8; have H1 := ifp_ H
   clear H; have H := H1; clear H1; replace H := Option.bind_eq_some_iff.mp H; obtain ⟨t460, A90, H⟩ := H; (try dsimp only at H); have A9 := Aside0.mk A90; clear A90; have H' := Aside0.mk H; clear H; have hnb10 := NB456_457.out; have hnc10 := NB457_456.out; have hnb11 := NB456_458.out; have hnc11 := NB458_456.out; have hcz12_0 := cl_ (v := .int .i64 a0_0) BK456 0; have hcz12_1 := cl_ (v := .int .i64 a0_1) BK456 1; have hfz12_0 := blk_frozen BK456.out 0; have hfz12_1 := blk_frozen BK456.out 1
   go_wp2_with (first | ((with_reducible refine gate_callee (f := 16) rfl ?_); refine gl_ 7 Tryd.func16 #[.agg #[.int .i64 a0_0, .int .i64 a0_1]] (h := ?_); (with_reducible refine (spec_RangeOk.calls a0_0 a0_1 true _ A7.out).mono ?_); rintro e w13 ⟨rfl, hb⟩; refine ⟨_, rfl, ?_⟩; replace BK456 := bb_ BK456 hb; replace BK457 := bb_ BK457 hb; replace BK458 := bb_ BK458 hb; replace HB := hb3_ HB hb GE456 GE457 GE458; (try clear hb); have hnb14 := NB457_458.out; have hnc14 := NB458_457.out; have hcz15_0 := cl_ (v := .int .i64 a1_0) BK457 0; have hcz15_1 := cl_ (v := .int .i64 a1_1) BK457 1; have hfz15_0 := blk_frozen BK457.out 0; have hfz15_1 := blk_frozen BK457.out 1) | (go_at_call 16; (with_reducible refine (spec_RangeOk.calls a1_0 a1_1 t460 _ A9.out).mono ?_); rintro e w16 ⟨rfl, hb⟩; replace BK456 := bb_ BK456 hb; replace BK457 := bb_ BK457 hb; replace BK458 := bb_ BK458 hb; replace HB := hb3_ HB hb GE456 GE457 GE458; (try clear hb)))
   go_meet
   case rel => exact ⟨_, (!t460), (by first | rfl | (simp; done) | (simp [*]; done)), H', ⟨by first | omega | exact Nat.le_refl _⟩, bk_ BK456, bk_ BK457, bk_ BK458, ⟨by repeat (first | (with_reducible first | exact HB.out | apply below_alloc | apply pw_below_drewN | apply below_drew1 | refine below_set ?_ GE456.out | refine below_set ?_ GE457.out | refine below_set ?_ GE458.out) | exact HB.out)⟩⟩
  ·
   replace c8 := Bool.eq_false_iff.mpr c8; subst c8; have H1 := ifn_ H
   clear H; have H := H1; clear H1; have H' := Aside0.mk H; clear H; have hnb17 := NB456_457.out; have hnc17 := NB457_456.out; have hnb18 := NB456_458.out; have hnc18 := NB458_456.out; have hcz19_0 := cl_ (v := .int .i64 a0_0) BK456 0; have hcz19_1 := cl_ (v := .int .i64 a0_1) BK456 1; have hfz19_0 := blk_frozen BK456.out 0; have hfz19_1 := blk_frozen BK456.out 1
   go_wp2_with (first | ((with_reducible refine gate_callee (f := 16) rfl ?_); refine gl_ 7 Tryd.func16 #[.agg #[.int .i64 a0_0, .int .i64 a0_1]] (h := ?_); (with_reducible refine (spec_RangeOk.calls a0_0 a0_1 false _ A7.out).mono ?_); rintro e w20 ⟨rfl, hb⟩; refine ⟨_, rfl, ?_⟩; replace BK456 := bb_ BK456 hb; replace BK457 := bb_ BK457 hb; replace BK458 := bb_ BK458 hb; replace HB := hb3_ HB hb GE456 GE457 GE458; (try clear hb)))
   go_meet
   case rel => exact ⟨_, (true), (by first | rfl | (simp; done) | (simp [*]; done)), H', ⟨by first | omega | exact Nat.le_refl _⟩, bk_ BK456, bk_ BK457, bk_ BK458, ⟨by repeat (first | (with_reducible first | exact HB.out | apply below_alloc | apply pw_below_drewN | apply below_drew1 | refine below_set ?_ GE456.out | refine below_set ?_ GE457.out | refine below_set ?_ GE458.out) | exact HB.out)⟩⟩
 case rest =>
  clear HC3
  try clear c1
  try clear c2
  try clear p2
  try clear c8
  try clear c10
  try clear c11
  try clear c14
  try clear c16
  try clear c17
  try clear c18
  try clear hcz12_0
  try clear hcz12_1
  try clear hcz15_0
  try clear hcz15_1
  try clear hcz19_0
  try clear hcz19_1
  try clear hfz12_0
  try clear hfz12_1
  try clear hfz15_0
  try clear hfz15_1
  try clear hfz19_0
  try clear hfz19_1
  obtain ⟨kq, x5_2, rfl, HA, HJ2, BK456, BK457, BK458, HB⟩ := hcut; cases kq with
  | zero => exact absurd HA.out (by simp [spec_RangeJoin.j0])
  | succ kj2 =>
   have H := HA.out; clear HA; simp only [spec_RangeJoin.j0] at H
   by_cases c21 : x5_2 = true
   ·
    subst c21; have H1 := ifp_ H
    clear H; have H := H1; clear H1; replace H := Option.bind_eq_some_iff.mp H; obtain ⟨⟨t461, t462⟩, A220, H⟩ := H; replace H : (some (t461, t462)) = some (r1, r2) := H; have A22 := Aside0.mk A220; clear A220; simp only [Option.some.injEq, Prod.mk.injEq] at H; obtain ⟨rfl, rfl⟩ := H
    go_wp2_with (first | ((with_reducible refine gate_callee (f := 51) rfl ?_); refine gl_ 14 Tryd.func51 #[] (h := ?_); (with_reducible refine (spec_l06None.calls  t461 t462 _ A22.out).mono ?_); rintro e w23 ⟨rfl, hb⟩; refine ⟨_, rfl, ?_⟩; replace BK458 := bb_ BK458 hb; replace HB := hb1_ HB hb GE458; (try clear hb); have hcz24_0 := cl_ (v := .int .i64 0) BK458 0; have hcz24_1 := cl_ (v := .int .i64 0) BK458 1; have hfz24_0 := blk_frozen BK458.out 0; have hfz24_1 := blk_frozen BK458.out 1))
    refine bodyPost_ret (results_cell_row rfl _ _ gb458 25 #[.int .i64 t461, .int .i64 t462] (0, 0) _ rfl (bp_ BK458) Tryd.underlying25 rfl (by kernel_rfl)) rfl ?_; exact ⟨by first | rfl | (simp [errW_none, errW_some] <;> rfl) | (simp [*, errW_none, errW_some] <;> rfl), by repeat (first | (with_reducible first | exact HB.out | apply below_alloc | apply pw_below_drewN | apply below_drew1 | refine below_set ?_ GE458.out) | exact HB.out)⟩
   ·
    replace c21 := Bool.eq_false_iff.mpr c21; subst c21; have H1 := ifn_ H
    clear H; have H := H1; clear H1; replace H := Option.bind_eq_some_iff.mp H; obtain ⟨t463, A250, H⟩ := H; (try dsimp only at H); have A25 := Aside0.mk A250; clear A250
    by_cases c26 : t463 = true
    ·
     subst c26; have H1 := ifp_ H
     clear H; have H := H1; clear H1; replace H := Option.bind_eq_some_iff.mp H; obtain ⟨t464, A270, H⟩ := H; (try dsimp only at H); have A27 := Aside0.mk A270; clear A270
     by_cases c28 : t464 = true
     ·
      subst c28; have H1 := ifp_ H
      clear H; have H := H1; clear H1; replace H := Option.bind_eq_some_iff.mp H; obtain ⟨t465, A290, H⟩ := H; (try dsimp only at H); have A29 := Aside0.mk A290; clear A290; replace H := Option.bind_eq_some_iff.mp H; obtain ⟨t466, A300, H⟩ := H; (try dsimp only at H); have A30 := Aside0.mk A300; clear A300; replace H := Option.bind_eq_some_iff.mp H; obtain ⟨⟨t467, t468⟩, A310, H⟩ := H; replace H : (some (t467, t468)) = some (r1, r2) := H; have A31 := Aside0.mk A310; clear A310; simp only [Option.some.injEq, Prod.mk.injEq] at H; obtain ⟨rfl, rfl⟩ := H; have hnb32 := NB456_457.out; have hnc32 := NB457_456.out; have hnb33 := NB456_458.out; have hnc33 := NB458_456.out; have hcz34_0 := cl_ (v := .int .i64 a0_0) BK456 0; have hcz34_1 := cl_ (v := .int .i64 a0_1) BK456 1; have hfz34_0 := blk_frozen BK456.out 0; have hfz34_1 := blk_frozen BK456.out 1
      try go_wp2_with (first | ((with_reducible refine gate_callee (f := 55) rfl ?_); refine gl_ 17 Tryd.func55 #[.agg #[.int .i64 a0_0, .int .i64 a0_1]] (h := ?_); (with_reducible refine (spec_l06Is.calls a0_0 a0_1 true _ A25.out).mono ?_); rintro e w35 ⟨rfl, hb⟩; refine ⟨_, rfl, ?_⟩; replace BK456 := bb_ BK456 hb; replace BK457 := bb_ BK457 hb; replace BK458 := bb_ BK458 hb; replace HB := hb3_ HB hb GE456 GE457 GE458; (try clear hb); have hnb36 := NB457_458.out; have hnc36 := NB458_457.out; have hcz37_0 := cl_ (v := .int .i64 a1_0) BK457 0; have hcz37_1 := cl_ (v := .int .i64 a1_1) BK457 1; have hfz37_0 := blk_frozen BK457.out 0; have hfz37_1 := blk_frozen BK457.out 1) | ((with_reducible refine gate_callee (f := 55) rfl ?_); refine gl_ 22 Tryd.func55 #[.agg #[.int .i64 a1_0, .int .i64 a1_1]] (h := ?_); (with_reducible refine (spec_l06Is.calls a1_0 a1_1 true _ A27.out).mono ?_); rintro e w38 ⟨rfl, hb⟩; refine ⟨_, rfl, ?_⟩; replace BK456 := bb_ BK456 hb; replace BK457 := bb_ BK457 hb; replace BK458 := bb_ BK458 hb; replace HB := hb3_ HB hb GE456 GE457 GE458; (try clear hb)))
      replace BK456 := bd_ BK456; replace BK457 := bd_ BK457; replace BK458 := bd_ BK458; replace HB := hd_ HB; refine start_ (n := 12) (S := fun w' => w'.cell? ⟨gb456, 0, none⟩ = some (.int .i64 a0_0) ∧ w'.cell? ⟨gb456, 1, none⟩ = some (.int .i64 a0_1) ∧ w'.cell? ⟨gb457, 0, none⟩ = some (.int .i64 a1_0) ∧ w'.cell? ⟨gb457, 1, none⟩ = some (.int .i64 a1_1)) (ds := []) #[false, false, false, false, false, false, false, false, false, false, false, false] (by kernel_rfl) rfl rfl ⟨cl_ BK456 0, cl_ BK456 1, cl_ BK457 0, cl_ BK457 1⟩ (fun hHeld => ?_); refine with_tabW spec_RangeJoin.tab7 spec_RangeJoin.bits7 (fun HT_ HW_ => ?_); generalize w38.drew = w39 at BK456 BK457 BK458 HB hHeld ⊢; refine pure_y 0 (some 25) #[true, false, false, false, false, false, false, false, false, false, false, false] (any_of HT_.out (by kernel_rfl)) (h := ?_)
      refine pure_y 2 (some 27) #[true, false, true, false, false, false, false, false, false, false, false, false] (any_of HT_.out (by kernel_rfl)) (h := ?_)
      refine pure_y 5 (some 30) #[true, false, true, false, false, true, false, false, false, false, false, false] (any_of HT_.out (by kernel_rfl)) (h := ?_)
      refine pure_y 7 (some 32) #[true, false, true, false, false, true, false, true, false, false, false, false] (any_of HT_.out (by kernel_rfl)) (h := ?_)
      refine take_y 1 (some 26) #[true, true, true, false, false, true, false, true, false, false, false, false] rfl (take_ofW HT_.out HW_.out (by kernel_rfl)) hHeld (Or.inl ⟨by rfl, (by rintro w' ⟨s0, s1, s2, s3⟩; go_simp; with_reducible rfl)⟩) (h := ?_)
      refine take_y 3 (some 28) #[true, true, true, true, false, true, false, true, false, false, false, false] rfl (take_ofW HT_.out HW_.out (by kernel_rfl)) hHeld (Or.inl ⟨by rfl, (by rintro w' ⟨s0, s1, s2, s3⟩; go_simp; with_reducible rfl)⟩) (h := ?_)
      refine take_y 6 (some 31) #[true, true, true, true, false, true, true, true, false, false, false, false] rfl (take_ofW HT_.out HW_.out (by kernel_rfl)) hHeld (Or.inl ⟨by rfl, (by rintro w' ⟨s0, s1, s2, s3⟩; go_simp; with_reducible rfl)⟩) (h := ?_)
      refine take_y 8 (some 33) #[true, true, true, true, false, true, true, true, true, false, false, false] rfl (take_ofW HT_.out HW_.out (by kernel_rfl)) hHeld (Or.inl ⟨by rfl, (by rintro w' ⟨s0, s1, s2, s3⟩; go_simp; with_reducible rfl)⟩) (h := ?_)
      refine one_ (i := 4) (N := some 29) #[true, true, true, true, true, true, true, true, true, false, false, false] rfl rfl (one_of HT_.out (by kernel_rfl)) (by decide) (fun K hK => ?_); refine gs_ Tryd.func53 #[.int .i64 a0_0, .int .i64 a1_0] (h := ?_); with_reducible refine (spec_l06Min.calls a0_0 a1_0 t465 _ A29.out).mono ?_
      rintro e w' ⟨rfl, ⟨nd, rfl⟩⟩; refine ⟨_, rfl, ?_⟩; refine hK.out _ _ ⟨cl_ BK456 0, cl_ BK456 1, cl_ BK457 0, cl_ BK457 1⟩ (fun hHeld => ?_); clear hK K; refine norm_y (h := ?_)
      refine one_ (i := 9) (N := some 34) #[true, true, true, true, true, true, true, true, true, true, false, false] rfl rfl (one_of HT_.out (by kernel_rfl)) (by decide) (fun K hK => ?_); refine gs_ Tryd.func54 #[.int .i64 a0_1, .int .i64 a1_1] (h := ?_); with_reducible refine (spec_l06Max.calls a0_1 a1_1 t466 _ A30.out).mono ?_
      rintro e w' ⟨rfl, ⟨nd, rfl⟩⟩; refine ⟨_, rfl, ?_⟩; refine hK.out _ _ ⟨cl_ BK456 0, cl_ BK456 1, cl_ BK457 0, cl_ BK457 1⟩ (fun hHeld => ?_); clear hK K; refine norm_y (h := ?_)
      refine one_ (i := 10) (N := some 35) #[true, true, true, true, true, true, true, true, true, true, true, false] rfl rfl (one_of HT_.out (by kernel_rfl)) (by decide) (fun K hK => ?_); refine gs_ Tryd.func52 #[.int .i64 t465, .int .i64 t466] (h := ?_); with_reducible refine (spec_l06Make.calls t465 t466 t467 t468 _ A31.out).mono ?_
      rintro e w40 ⟨rfl, hb⟩; refine ⟨_, rfl, ?_⟩; replace BK456 := bb_ BK456 hb; replace BK457 := bb_ BK457 hb; replace BK458 := bb_ BK458 hb; replace HB := hb3_ HB hb GE456 GE457 GE458
      (try clear hb)
      (try clear hb2)
      (try clear hk)
      (try clear hi)
      refine hK.out _ _ ⟨cl_ BK456 0, cl_ BK456 1, cl_ BK457 0, cl_ BK457 1⟩ (fun hHeld => ?_); clear hK K; refine norm_y (h := ?_)
      refine one_ (i := 11) (N := none) #[true, true, true, true, true, true, true, true, true, true, true, true] rfl rfl (one_of HT_.out (by kernel_rfl)) (by decide) (fun K hK => ?_); have hs41 : w40.cell? ⟨gb458, 0, none⟩ = some (.int .i64 0) := (blk_cell BK458.out 0).trans rfl; have hfs41 := blk_frozen BK458.out 0; have hns41_0 := NB456_458.out; have hns41_1 := NB457_458.out; have hms41_0 := NB458_456.out; have hms41_1 := NB458_457.out; have hs42 : w40.cell? ⟨gb458, 1, none⟩ = some (.int .i64 0) := (blk_cell BK458.out 1).trans rfl; have hfs42 := blk_frozen BK458.out 1; have hns42_0 := NB456_458.out; have hns42_1 := NB457_458.out; have hms42_0 := NB458_456.out; have hms42_1 := NB458_457.out; refine skip_ (w1 := ?_) (by rfl) rfl ?_ ?_; rotate_left
      ·
       go_simp; rfl
      refine hK.out _ _ ⟨((cell_far (p := ⟨gb458, _, none⟩) NB456_458.out _).trans (((cell_far (p := ⟨gb458, _, none⟩) NB456_458.out _).trans (hHeld.1)))), ((cell_far (p := ⟨gb458, _, none⟩) NB456_458.out _).trans (((cell_far (p := ⟨gb458, _, none⟩) NB456_458.out _).trans (hHeld.2.1)))), ((cell_far (p := ⟨gb458, _, none⟩) NB457_458.out _).trans (((cell_far (p := ⟨gb458, _, none⟩) NB457_458.out _).trans (hHeld.2.2.1)))), ((cell_far (p := ⟨gb458, _, none⟩) NB457_458.out _).trans (((cell_far (p := ⟨gb458, _, none⟩) NB457_458.out _).trans (hHeld.2.2.2))))⟩ (fun hHeld => ?_); clear hK K; refine done_ (done_of HT_.out (by kernel_rfl)) ?_
      try go_wp2
      refine bodyPost_ret (results_cell_row rfl _ _ gb458 25 #[.int .i64 t467, .int .i64 t468] (0, 0) _ rfl (bp_ BK458) Tryd.underlying25 rfl (by kernel_rfl)) rfl ?_; exact ⟨by first | rfl | (simp [errW_none, errW_some] <;> rfl) | (simp [*, errW_none, errW_some] <;> rfl), by repeat (first | (with_reducible first | exact HB.out | apply below_alloc | apply pw_below_drewN | apply below_drew1 | refine below_set ?_ GE456.out | refine below_set ?_ GE457.out | refine below_set ?_ GE458.out) | exact HB.out)⟩
     ·
      replace c28 := Bool.eq_false_iff.mpr c28; subst c28; have H1 := ifn_ H
      clear H; have H := H1; clear H1; simp only [Option.some.injEq, Prod.mk.injEq] at H; obtain ⟨rfl, rfl⟩ := H; have hnb43 := NB456_457.out; have hnc43 := NB457_456.out; have hnb44 := NB456_458.out; have hnc44 := NB458_456.out; have hcz45_0 := cl_ (v := .int .i64 a0_0) BK456 0; have hcz45_1 := cl_ (v := .int .i64 a0_1) BK456 1; have hfz45_0 := blk_frozen BK456.out 0; have hfz45_1 := blk_frozen BK456.out 1
      go_wp2_with (first | ((with_reducible refine gate_callee (f := 55) rfl ?_); refine gl_ 17 Tryd.func55 #[.agg #[.int .i64 a0_0, .int .i64 a0_1]] (h := ?_); (with_reducible refine (spec_l06Is.calls a0_0 a0_1 true _ A25.out).mono ?_); rintro e w46 ⟨rfl, hb⟩; refine ⟨_, rfl, ?_⟩; replace BK456 := bb_ BK456 hb; replace BK457 := bb_ BK457 hb; replace BK458 := bb_ BK458 hb; replace HB := hb3_ HB hb GE456 GE457 GE458; (try clear hb); have hnb47 := NB457_458.out; have hnc47 := NB458_457.out; have hcz48_0 := cl_ (v := .int .i64 a1_0) BK457 0; have hcz48_1 := cl_ (v := .int .i64 a1_1) BK457 1; have hfz48_0 := blk_frozen BK457.out 0; have hfz48_1 := blk_frozen BK457.out 1) | ((with_reducible refine gate_callee (f := 55) rfl ?_); refine gl_ 22 Tryd.func55 #[.agg #[.int .i64 a1_0, .int .i64 a1_1]] (h := ?_); (with_reducible refine (spec_l06Is.calls a1_0 a1_1 false _ A27.out).mono ?_); rintro e w49 ⟨rfl, hb⟩; refine ⟨_, rfl, ?_⟩; replace BK456 := bb_ BK456 hb; replace BK458 := bb_ BK458 hb; replace HB := hb2_ HB hb GE456 GE458; (try clear hb); have hcz50_0 := cl_ (v := .int .i64 a0_0) BK456 0; have hcz50_1 := cl_ (v := .int .i64 a0_1) BK456 1; have hfz50_0 := blk_frozen BK456.out 0; have hfz50_1 := blk_frozen BK456.out 1; have hcz51_0 := cl_ (v := .int .i64 0) BK458 0; have hcz51_1 := cl_ (v := .int .i64 0) BK458 1; have hfz51_0 := blk_frozen BK458.out 0; have hfz51_1 := blk_frozen BK458.out 1))
      refine bodyPost_ret (results_cell_row rfl _ _ gb458 25 #[.int .i64 a0_0, .int .i64 a0_1] (0, 0) _ rfl (bp_ BK458) Tryd.underlying25 rfl (by kernel_rfl)) rfl ?_; exact ⟨by first | rfl | (simp [errW_none, errW_some] <;> rfl) | (simp [*, errW_none, errW_some] <;> rfl), by repeat (first | (with_reducible first | exact HB.out | apply below_alloc | apply pw_below_drewN | apply below_drew1 | refine below_set ?_ GE458.out) | exact HB.out)⟩
    ·
     replace c26 := Bool.eq_false_iff.mpr c26; subst c26; have H1 := ifn_ H
     clear H; have H := H1; clear H1; simp only [Option.some.injEq, Prod.mk.injEq] at H; obtain ⟨rfl, rfl⟩ := H; have hnb52 := NB456_457.out; have hnc52 := NB457_456.out; have hnb53 := NB456_458.out; have hnc53 := NB458_456.out; have hcz54_0 := cl_ (v := .int .i64 a0_0) BK456 0; have hcz54_1 := cl_ (v := .int .i64 a0_1) BK456 1; have hfz54_0 := blk_frozen BK456.out 0; have hfz54_1 := blk_frozen BK456.out 1
     go_wp2_with (first | ((with_reducible refine gate_callee (f := 55) rfl ?_); refine gl_ 17 Tryd.func55 #[.agg #[.int .i64 a0_0, .int .i64 a0_1]] (h := ?_); (with_reducible refine (spec_l06Is.calls a0_0 a0_1 false _ A25.out).mono ?_); rintro e w55 ⟨rfl, hb⟩; refine ⟨_, rfl, ?_⟩; replace BK457 := bb_ BK457 hb; replace BK458 := bb_ BK458 hb; replace HB := hb2_ HB hb GE457 GE458; (try clear hb); have hnb56 := NB457_458.out; have hnc56 := NB458_457.out; have hcz57_0 := cl_ (v := .int .i64 a1_0) BK457 0; have hcz57_1 := cl_ (v := .int .i64 a1_1) BK457 1; have hfz57_0 := blk_frozen BK457.out 0; have hfz57_1 := blk_frozen BK457.out 1; have hcz58_0 := cl_ (v := .int .i64 0) BK458 0; have hcz58_1 := cl_ (v := .int .i64 0) BK458 1; have hfz58_0 := blk_frozen BK458.out 0; have hfz58_1 := blk_frozen BK458.out 1))
     refine bodyPost_ret (results_cell_row rfl _ _ gb458 25 #[.int .i64 a1_0, .int .i64 a1_1] (0, 0) _ rfl (bp_ BK458) Tryd.underlying25 rfl (by kernel_rfl)) rfl ?_; exact ⟨by first | rfl | (simp [errW_none, errW_some] <;> rfl) | (simp [*, errW_none, errW_some] <;> rfl), by repeat (first | (with_reducible first | exact HB.out | apply below_alloc | apply pw_below_drewN | apply below_drew1 | refine below_set ?_ GE458.out) | exact HB.out)⟩

end Go.Proofs.YtmibaaicadgchaaDoor.Q
