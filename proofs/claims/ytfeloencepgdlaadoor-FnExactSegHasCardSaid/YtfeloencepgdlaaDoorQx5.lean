/- Functions of the translation as Lean functions, each with a proof that a call answers so; out of the seat, by this claim's own program prt.py. -/
import Derived.Test.YtfeloencepgdlaaDoorWTab
import Derived.Test.YtfeloencepgdlaaDoorWRepsOne
import Derived.Test.YtfeloencepgdlaaDoorQx0
import Derived.Test.YtfeloencepgdlaaDoorQx3
import Derived.Test.YtfeloencepgdlaaDoorQx4
import Derived.Test.YtfeloencepgdlaaDoorQStep
namespace Go.Proofs.YtfeloencepgdlaaDoor.Q
open Go.RowKit Go.Proofs.YtfeloencepgdlaaDoorW.PrintWords Go.Proofs.YtfeloencepgdlaaDoorW.PrintLast Go.Proofs.YtfeloencepgdlaaDoorW.PrintMore
attribute [local go_sem] max2_int min2_int max_two min_two max_three min_three max_four min_four   -- for this text's walks alone
set_option linter.unusedVariables false
set_option linter.unusedSimpArgs false

/-! ### spec_l10In: function 26 -/
abbrev spec_l10In.b0_ : Array Bool := #[false, false, false, false, false, false, false, false]
abbrev spec_l10In.b1_ : Array Bool := #[true, false, false, false, false, false, false, false]
abbrev spec_l10In.b2_ : Array Bool := #[true, false, true, false, false, false, false, false]
abbrev spec_l10In.b3_ : Array Bool := #[true, true, true, false, false, false, false, false]
abbrev spec_l10In.b4_ : Array Bool := #[true, true, true, true, false, false, false, false]
abbrev spec_l10In.b5_ : Array Bool := #[true, true, true, true, true, false, false, false]
abbrev spec_l10In.b6_ : Array Bool := #[true, true, true, true, true, true, false, false]
abbrev spec_l10In.b7_ : Array Bool := #[true, true, true, true, true, true, true, false]
abbrev spec_l10In.b8_ : Array Bool := #[true, true, true, true, true, true, true, true]
def spec_l10In.l0 : Nat → Int → List (List (S55)) → List (S62) → List Bool → Int → Int → Option (Int)
 | 0, _, _, _, _, _, _ => none
 | k + 1, x5, x118000, x118001, x118002, x119000, x119001 => if x5 < (x118000.length : Int) then (if 0 ≤ x5 then ((spec_l10Find.f k (rd_L7 x118000 x5) x119000 x119001).bind fun t120 => (if t120 ≥ 0 then (some x5) else (spec_l10In.l0 k (wrap64 (x5 + 1)) x118000 x118001 x118002 x119000 x119001))) else (none)) else (some (-1))
def spec_l10In.f (k : Nat) (l0_0 : List (List (S55))) (l0_1 : List (S62)) (l0_2 : List Bool) (a1_0 : Int) (a1_1 : Int) : Option (Int) := spec_l10In.l0 k 0 l0_0 l0_1 l0_2 a1_0 a1_1
theorem spec_l10In.mono_l : ∀ k, (∀ y0 y1 y2 y3 y4 y5, LeO (spec_l10In.l0 k y0 y1 y2 y3 y4 y5) (spec_l10In.l0 (k + 1) y0 y1 y2 y3 y4 y5))
 | 0 => fun _ _ _ _ _ _ r h => by simp [spec_l10In.l0] at h
 | k + 1 => by
  have ih0 := spec_l10In.mono_l k
  ·
   intro y0 y1 y2 y3 y4 y5; unfold spec_l10In.l0
   repeat' first
   | (with_reducible exact ih0 _ _ _ _ _ _)
   | (with_reducible exact spec_l10Find.mono _ _ _ _)
   | (with_reducible exact LeO.refl _)
   | (with_reducible exact LeO.none _)
   | (with_reducible refine LeO.ite ?_ ?_)
   | (with_reducible refine LeO.bind ?_ (fun _ => ?_))
   | exact ih0 _ _ _ _ _ _
   | exact spec_l10Find.mono _ _ _ _
   | exact LeO.none _
   | refine LeO.ite ?_ ?_
   | refine LeO.bind ?_ (fun _ => ?_)
theorem spec_l10In.mono : ∀ a0 a1 a2 a3 a4 k, LeO (spec_l10In.f k a0 a1 a2 a3 a4) (spec_l10In.f (k + 1) a0 a1 a2 a3 a4) := by
 intro a0 a1 a2 a3 a4 k; have ih0 := spec_l10In.mono_l k; unfold spec_l10In.f
 repeat' first
   | (with_reducible exact ih0 _ _ _ _ _ _)
   | (with_reducible exact spec_l10Find.mono _ _ _ _)
   | (with_reducible exact LeO.refl _)
   | (with_reducible exact LeO.none _)
   | (with_reducible refine LeO.ite ?_ ?_)
   | (with_reducible refine LeO.bind ?_ (fun _ => ?_))
   | exact ih0 _ _ _ _ _ _
   | exact spec_l10Find.mono _ _ _ _
   | exact LeO.none _
   | refine LeO.ite ?_ ?_
   | refine LeO.bind ?_ (fun _ => ?_)
def spec_l10In.T4 : Bool × List (List Nat × List Nat) := (true, [([], []), ([0], [0]), ([], []), ([1, 2], [1, 2]), ([3], [3]), ([], []), ([4, 5], [4, 5]), ([6], [6])])
def spec_l10In.B4 : List Nat := [0, 1, 0, 7, 15, 0, 63, 127]
theorem spec_l10In.tab4 : rtab .any (opsOf Tryd.f26 4) = spec_l10In.T4 := by kernel_rfl
theorem spec_l10In.bits4 : waitsOk spec_l10In.T4.2 spec_l10In.B4 = true := by kernel_rfl
set_option maxHeartbeats 8000000 in
set_option maxRecDepth 100000 in
theorem spec_l10In.calls (k : Nat) (A0_0 : Option Addr) (c0_0 : Nat) (l0_0 : List (List (S55))) (A0_1 : Option Addr) (c0_1 : Nat) (l0_1 : List (S62)) (A0_2 : Option Addr) (c0_2 : Nat) (l0_2 : List Bool) (a1_0 : Int) (a1_1 : Int) (r : Int) (w : World) (hr0_0 : Kd.C (Kd.slice 55 k55) w A0_0 l0_0.length l0_0) (hc0_0 : l0_0.length ≤ c0_0) (hr0_1 : Kd.C k62 w A0_1 l0_1.length l0_1) (hc0_1 : l0_1.length ≤ c0_1) (hr0_2 : Kd.C Kd.bool w A0_2 l0_2.length l0_2) (hc0_2 : l0_2.length ≤ c0_2) (h : spec_l10In.f k l0_0 l0_1 l0_2 a1_0 a1_1 = some r) :
  Calls Tryd.prog 26 #[.agg #[.slice A0_0 l0_0.length c0_0, .slice A0_1 l0_1.length c0_1, .slice A0_2 l0_2.length c0_2], .agg #[.int .i64 a1_0, .int .i64 a1_1]] w fun e w' => e = .returned (.int .i64 r) ∧ Below w.heap.size w w' := by
 have hu32 := Tryd.underlying32; have hu55 := Tryd.underlying55; have HR0_0 := Aside0.mk hr0_0; have HC0_0 := Aside0.mk hc0_0; clear hr0_0 hc0_0; have HR0_1 := Aside0.mk hr0_1; have HC0_1 := Aside0.mk hc0_1; clear hr0_1 hc0_1; have HR0_2 := Aside0.mk hr0_2; have HC0_2 := Aside0.mk hc0_2; clear hr0_2 hc0_2; have HB := Aside0.mk (Below.refl w.heap.size w); have H : (spec_l10In.l0 k 0 l0_0 l0_1 l0_2 a1_0 a1_1) = some r := h; clear h; have H' := Aside0.mk H; clear H
 go_enter Tryd.func26, Tryd.ntmps26
 go_wp2_with (first | ((with_reducible refine gate_dst (N := 2) rfl ?_); refine box_y 2 #[.slice A0_0 l0_0.length c0_0, .slice A0_1 l0_1.length c0_1, .slice A0_2 l0_2.length c0_2] 32 (h := ?_); intro gb117 hg w3 hbox hb; have n0_ := Aside0.mk (below_step (sq_below HB.out) hb); have n1_ := Aside0.mk (hbox); have n2_ := ge_ hg (below_size (sq_below HB.out)); have n3_ := ge_ hg (below_size (sq_below HB.out)); clear HB; have HB := n0_; have BK117 := n1_; have GW117 := n2_; have GE117 := n3_; clear n0_ n1_ n2_ n3_; clear hb hbox hg) | ((with_reducible refine gate_dst (N := 3) rfl ?_); refine box_y 3 #[.int .i64 a1_0, .int .i64 a1_1] 55 (h := ?_); intro gb118 hg w4 hbox hb; have n0_ := Aside0.mk (blk_below (sq_blk BK117.out) hb); have n1_ := Aside0.mk (below_step (sq_below1 HB.out GE117.out) hb); have n2_ := Aside0.mk (hbox); have n3_ := ge_ hg (below_size (sq_below1 HB.out GE117.out)); have n4_ := ge_ hg (below_size (sq_below1 HB.out GE117.out)); have n5_ := nb_ hg BK117; have n6_ := Aside0.mk (Ne.symm n5_.out); clear BK117; clear HB; have BK117 := n0_; have HB := n1_; have BK118 := n2_; have GW118 := n3_; have GE118 := n4_; have NB117_118 := n5_; have NB118_117 := n6_; clear n0_ n1_ n2_ n3_ n4_ n5_ n6_; clear hb hbox hg))
 go_loopg [5] k (fun kq v5 w' => ∃ (x5_1 : Int), v5 = .int .i64 x5_1 ∧ Aside0 (spec_l10In.l0 kq x5_1 l0_0 l0_1 l0_2 a1_0 a1_1 = some r) ∧ Aside0 (kq ≤ k) ∧ Aside0 (w'.heap[gb117]? = some (.cells #[(.slice A0_0 l0_0.length c0_0), (.slice A0_1 l0_1.length c0_1), (.slice A0_2 l0_2.length c0_2)] 32 (0, 0))) ∧ Aside0 (w'.heap[gb118]? = some (.cells #[.int .i64 a1_0, .int .i64 a1_1] 55 (0, 0))) ∧ Aside0 (Below w.heap.size w w'))
 case atStart => exact ⟨(0), (by first | rfl | (simp; done) | (simp [*]; done)), H', ⟨Nat.le_refl _⟩, bk_ BK117, bk_ BK118, ⟨sq_below2 HB.out GE117.out GE118.out⟩⟩
 case round =>
  clear H'
  try clear c2
  try clear p2
  obtain ⟨x5_1, rfl, HA, HK1, BK117, BK118, HB⟩ := hrel; cases gk with
  | zero => exact absurd HA.out (by simp [spec_l10In.l0])
  | succ k1 =>
   have H := HA.out; clear HA; simp only [spec_l10In.l0] at H
   by_cases c5 : x5_1 < (l0_0.length : Int)
   ·
    rw [if_pos c5] at H; have c5b0 : decide (x5_1 < (l0_0.length : Int)) = true := decide_eq_true c5; clear c5
    by_cases c6 : 0 ≤ x5_1
    ·
     rw [if_pos c6] at H; have c6b0 : decide (0 ≤ x5_1) = true := decide_eq_true c6; clear c6; replace H := Option.bind_eq_some_iff.mp H; obtain ⟨t120, A70, H⟩ := H; (try dsimp only at H); have A7 := Aside0.mk A70; clear A70
     by_cases c8 : t120 ≥ 0
     ·
      rw [if_pos c8] at H; have c8b0 : decide (0 ≤ t120) = true := decide_eq_true c8; clear c8; obtain rfl := Option.some.inj H; have hnb9 := NB117_118.out; have hnc9 := NB118_117.out; have hcz10_0 := cl_ (v := .slice A0_0 l0_0.length c0_0) BK117 0; have hcz10_1 := cl_ (v := .slice A0_1 l0_1.length c0_1) BK117 1; have hcz10_2 := cl_ (v := .slice A0_2 l0_2.length c0_2) BK117 2; have hfz10_0 := blk_frozen BK117.out 0; have hfz10_1 := blk_frozen BK117.out 1; have hfz10_2 := blk_frozen BK117.out 2
      try go_wp2
      replace BK117 := bd_ BK117; replace BK118 := bd_ BK118; replace HB := hd_ HB; have p119 : 0 ≤ (x5_1 : Int) := sq_dec; have q119 : x5_1 < (l0_0.length : Int) := sq_dec; obtain ⟨ad119, A119_0, c119_0, e119, hx119_0, hl119_0, hi119_0⟩ := at_L7 HR0_0.out x5_1 p119 q119; have hw119_0 := hx119_0; cases e119; replace hx119_0 := (HB.out.cell (World.block_lt_of_cell? w _ hx119_0)).trans hx119_0; have HR119_0 := Aside0.mk hi119_0; have HC119_0 := Aside0.mk hl119_0; clear hi119_0 hl119_0; replace p119 := eq_true p119; replace q119 := eq_true q119; refine start_ (n := 8) (S := fun w' => w'.cell? ⟨gb117, 0, none⟩ = some (.slice (some ad119) l0_0.length c0_0) ∧ w'.cell? ⟨gb117, 1, none⟩ = some (.slice A0_1 l0_1.length c0_1) ∧ w'.cell? ⟨gb117, 2, none⟩ = some (.slice A0_2 l0_2.length c0_2) ∧ w'.cell? ⟨gb118, 0, none⟩ = some (.int .i64 a1_0) ∧ w'.cell? ⟨gb118, 1, none⟩ = some (.int .i64 a1_1) ∧ w'.cell? (ad119.add (x5_1).toNat) = some (.slice A119_0 (rd_L7 l0_0 x5_1).length c119_0)) (ds := []) spec_l10In.b0_ (by kernel_rfl) rfl rfl ⟨cl_ BK117 0, cl_ BK117 1, cl_ BK117 2, cl_ BK118 0, cl_ BK118 1, ((HB.out.cell (World.block_lt_of_cell? w _ hw119_0)).trans hw119_0)⟩ (fun hHeld => ?_); refine with_tabW spec_l10In.tab4 spec_l10In.bits4 (fun HT_ HW_ => ?_); generalize wr.drew = w11 at BK117 BK118 HB HR119_0 hx119_0 hHeld ⊢; refine pure_y 0 (some 13) spec_l10In.b1_ (any_of HT_.out (by kernel_rfl)) (h := ?_)
      refine pure_y 2 (some 15) spec_l10In.b2_ (any_of HT_.out (by kernel_rfl)) (h := ?_)
      refine take_y 1 (some 14) spec_l10In.b3_ rfl (take_ofW HT_.out HW_.out (by kernel_rfl)) hHeld (Or.inl ⟨by rfl, (by rintro w' ⟨s0, s1, s2, s3, s4, s5⟩; go_simp; with_reducible rfl)⟩) (h := ?_)
      refine pure_y 3 (some 16) spec_l10In.b4_ (any_of HT_.out (by kernel_rfl)) (h := ?_)
      refine take_y 4 (some 17) spec_l10In.b5_ rfl (take_ofW HT_.out HW_.out (by kernel_rfl)) hHeld (Or.inl ⟨by rfl, (by rintro w' ⟨s0, s1, s2, s3, s4, s5⟩; go_simp; with_reducible rfl)⟩) (h := ?_)
      refine take_y 5 (some 18) spec_l10In.b6_ rfl (take_ofW HT_.out HW_.out (by kernel_rfl)) hHeld (Or.inl ⟨by rfl, (by rintro w' ⟨s0, s1, s2, s3, s4, s5⟩; go_simp; with_reducible rfl)⟩) (h := ?_)
      refine one_ (i := 6) (N := some 19) spec_l10In.b7_ rfl rfl (one_of HT_.out (by kernel_rfl)) (by decide) (fun K hK => ?_); refine gs_ Tryd.func57 #[.slice A119_0 (rd_L7 l0_0 x5_1).length c119_0, .agg #[.int .i64 a1_0, .int .i64 a1_1]] (h := ?_); with_reducible refine (spec_l10Find.calls k1 _ _ (rd_L7 l0_0 x5_1) a1_0 a1_1 t120 _ ?side1 ?side2 A7.out).mono ?_
      (case side1 => exact sq_c (Kd.C_below HR119_0.out HB.out))
      (case side2 => exact HC119_0.out)
      rintro e w12 ⟨rfl, hb⟩; refine ⟨_, rfl, ?_⟩; replace BK117 := bb_ BK117 hb; replace BK118 := bb_ BK118 hb; replace HB := hb2_ HB hb GE117 GE118
      (try clear hb)
      (try clear hb2)
      (try clear hk)
      (try clear hi)
      refine hK.out _ _ ⟨cl_ BK117 0, cl_ BK117 1, cl_ BK117 2, cl_ BK118 0, cl_ BK118 1, ((HB.out.cell (World.block_lt_of_cell? w _ hw119_0)).trans hw119_0)⟩ (fun hHeld => ?_); clear hK K; refine norm_y 19 (h := ?_)
      refine pure_y 7 (some 20) spec_l10In.b8_ (any_of HT_.out (by kernel_rfl)) (h := ?_)
      refine done_ (done_of HT_.out (by kernel_rfl)) ?_
      try go_wp2
      go_ret
      exact ⟨by first | rfl | (simp [errW_none, errW_some] <;> rfl) | (simp [*, errW_none, errW_some] <;> rfl), sq_below2 HB.out GE117.out GE118.out⟩
     ·
      rw [if_neg c8] at H; have c8b0 : decide (0 ≤ t120) = false := decide_eq_false c8; clear c8; have H' := Aside0.mk H; clear H; have hnb13 := NB117_118.out; have hnc13 := NB118_117.out; have hcz14_0 := cl_ (v := .slice A0_0 l0_0.length c0_0) BK117 0; have hcz14_1 := cl_ (v := .slice A0_1 l0_1.length c0_1) BK117 1; have hcz14_2 := cl_ (v := .slice A0_2 l0_2.length c0_2) BK117 2; have hfz14_0 := blk_frozen BK117.out 0; have hfz14_1 := blk_frozen BK117.out 1; have hfz14_2 := blk_frozen BK117.out 2
      try go_wp2
      replace BK117 := bd_ BK117; replace BK118 := bd_ BK118; replace HB := hd_ HB; have p119 : 0 ≤ (x5_1 : Int) := sq_dec; have q119 : x5_1 < (l0_0.length : Int) := sq_dec; obtain ⟨ad119, A119_0, c119_0, e119, hx119_0, hl119_0, hi119_0⟩ := at_L7 HR0_0.out x5_1 p119 q119; have hw119_0 := hx119_0; cases e119; replace hx119_0 := (HB.out.cell (World.block_lt_of_cell? w _ hx119_0)).trans hx119_0; have HR119_0 := Aside0.mk hi119_0; have HC119_0 := Aside0.mk hl119_0; clear hi119_0 hl119_0; replace p119 := eq_true p119; replace q119 := eq_true q119; refine start_ (n := 8) (S := fun w' => w'.cell? ⟨gb117, 0, none⟩ = some (.slice (some ad119) l0_0.length c0_0) ∧ w'.cell? ⟨gb117, 1, none⟩ = some (.slice A0_1 l0_1.length c0_1) ∧ w'.cell? ⟨gb117, 2, none⟩ = some (.slice A0_2 l0_2.length c0_2) ∧ w'.cell? ⟨gb118, 0, none⟩ = some (.int .i64 a1_0) ∧ w'.cell? ⟨gb118, 1, none⟩ = some (.int .i64 a1_1) ∧ w'.cell? (ad119.add (x5_1).toNat) = some (.slice A119_0 (rd_L7 l0_0 x5_1).length c119_0)) (ds := []) spec_l10In.b0_ (by kernel_rfl) rfl rfl ⟨cl_ BK117 0, cl_ BK117 1, cl_ BK117 2, cl_ BK118 0, cl_ BK118 1, ((HB.out.cell (World.block_lt_of_cell? w _ hw119_0)).trans hw119_0)⟩ (fun hHeld => ?_); refine with_tabW spec_l10In.tab4 spec_l10In.bits4 (fun HT_ HW_ => ?_); generalize wr.drew = w15 at BK117 BK118 HB HR119_0 hx119_0 hHeld ⊢; refine pure_y 0 (some 13) spec_l10In.b1_ (any_of HT_.out (by kernel_rfl)) (h := ?_)
      refine pure_y 2 (some 15) spec_l10In.b2_ (any_of HT_.out (by kernel_rfl)) (h := ?_)
      refine take_y 1 (some 14) spec_l10In.b3_ rfl (take_ofW HT_.out HW_.out (by kernel_rfl)) hHeld (Or.inl ⟨by rfl, (by rintro w' ⟨s0, s1, s2, s3, s4, s5⟩; go_simp; with_reducible rfl)⟩) (h := ?_)
      refine pure_y 3 (some 16) spec_l10In.b4_ (any_of HT_.out (by kernel_rfl)) (h := ?_)
      refine take_y 4 (some 17) spec_l10In.b5_ rfl (take_ofW HT_.out HW_.out (by kernel_rfl)) hHeld (Or.inl ⟨by rfl, (by rintro w' ⟨s0, s1, s2, s3, s4, s5⟩; go_simp; with_reducible rfl)⟩) (h := ?_)
      refine take_y 5 (some 18) spec_l10In.b6_ rfl (take_ofW HT_.out HW_.out (by kernel_rfl)) hHeld (Or.inl ⟨by rfl, (by rintro w' ⟨s0, s1, s2, s3, s4, s5⟩; go_simp; with_reducible rfl)⟩) (h := ?_)
      refine one_ (i := 6) (N := some 19) spec_l10In.b7_ rfl rfl (one_of HT_.out (by kernel_rfl)) (by decide) (fun K hK => ?_); refine gs_ Tryd.func57 #[.slice A119_0 (rd_L7 l0_0 x5_1).length c119_0, .agg #[.int .i64 a1_0, .int .i64 a1_1]] (h := ?_); with_reducible refine (spec_l10Find.calls k1 _ _ (rd_L7 l0_0 x5_1) a1_0 a1_1 t120 _ ?side1 ?side2 A7.out).mono ?_
      (case side1 => exact sq_c (Kd.C_below HR119_0.out HB.out))
      (case side2 => exact HC119_0.out)
      rintro e w16 ⟨rfl, hb⟩; refine ⟨_, rfl, ?_⟩; replace BK117 := bb_ BK117 hb; replace BK118 := bb_ BK118 hb; replace HB := hb2_ HB hb GE117 GE118
      (try clear hb)
      (try clear hb2)
      (try clear hk)
      (try clear hi)
      refine hK.out _ _ ⟨cl_ BK117 0, cl_ BK117 1, cl_ BK117 2, cl_ BK118 0, cl_ BK118 1, ((HB.out.cell (World.block_lt_of_cell? w _ hw119_0)).trans hw119_0)⟩ (fun hHeld => ?_); clear hK K; refine norm_y 19 (h := ?_)
      refine pure_y 7 (some 20) spec_l10In.b8_ (any_of HT_.out (by kernel_rfl)) (h := ?_)
      refine done_ (done_of HT_.out (by kernel_rfl)) ?_
      try go_wp2
      go_roundg k1
      case measure => have := HK1.out; omega
      case rel => exact ⟨(wrap64 (x5_1 + 1)), (by first | rfl | (simp; done) | (simp [*]; done)), H', ⟨by have := HK1.out; omega⟩, bk_ BK117, bk_ BK118, ⟨sq_below2 HB.out GE117.out GE118.out⟩⟩
    ·
     rw [if_neg c6] at H; exact absurd H (by simp)
   ·
    rw [if_neg c5] at H; have c5b0 : decide (x5_1 < (l0_0.length : Int)) = false := decide_eq_false c5; clear c5; obtain rfl := Option.some.inj H; have hcz17_0 := cl_ (v := .slice A0_0 l0_0.length c0_0) BK117 0; have hcz17_1 := cl_ (v := .slice A0_1 l0_1.length c0_1) BK117 1; have hcz17_2 := cl_ (v := .slice A0_2 l0_2.length c0_2) BK117 2; have hfz17_0 := blk_frozen BK117.out 0; have hfz17_1 := blk_frozen BK117.out 1; have hfz17_2 := blk_frozen BK117.out 2
    go_wp2
    go_ret
    exact ⟨by first | rfl | (simp [errW_none, errW_some] <;> rfl) | (simp [*, errW_none, errW_some] <;> rfl), sq_below1 HB.out GE117.out⟩

/-! ### spec_l05Val: function 67 -/
def spec_l05Val.f (a0 : Int) : Option (Bool) := (spec_l01Between.f a0 (-1000000) 1000000).bind fun t121 => (some t121)
set_option maxHeartbeats 8000000 in
set_option maxRecDepth 100000 in
theorem spec_l05Val.calls (a0 : Int) (r : Bool) (w : World) (h : spec_l05Val.f a0 = some r) :
  Calls Tryd.prog 67 #[.int .i64 a0] w fun e w' => e = .returned (.bool r) ∧ Drawn0 w w' := by
 have H : ((spec_l01Between.f a0 (-1000000) 1000000).bind fun t121 => (some t121)) = some r := h; clear h; replace H := Option.bind_eq_some_iff.mp H; obtain ⟨t121, A20, H⟩ := H; replace H : (some t121) = some r := H; have A2 := Aside0.mk A20; clear A20; obtain rfl := Option.some.inj H
 go_enter Tryd.func67, Tryd.ntmps67
 go_wp2_with (first | ((with_reducible refine gate_callee (f := 56) rfl ?_); refine gl_ 4 Tryd.func56 #[.int .i64 a0, .int .i64 (-1000000), .int .i64 1000000] (h := ?_); (with_reducible refine (spec_l01Between.calls a0 (-1000000) 1000000 t121 _ A2.out).mono ?_); rintro e w' ⟨rfl, ⟨nd, rfl⟩⟩; refine ⟨_, rfl, ?_⟩))
 go_ret
 exact ⟨by first | rfl | (simp; done) | (simp [*]; done), by repeat (first | exact Drawn0.refl _ | apply Drawn0.step)⟩

/-! ### spec_l06Is: function 81 -/
def spec_l06Is.f (a0_0 : Int) (a0_1 : Int) : Option (Bool) := some (decide (a0_0 ≤ a0_1))
set_option maxHeartbeats 8000000 in
set_option maxRecDepth 100000 in
theorem spec_l06Is.calls (a0_0 : Int) (a0_1 : Int) (r : Bool) (w : World) (h : spec_l06Is.f a0_0 a0_1 = some r) :
  Calls Tryd.prog 81 #[.agg #[.int .i64 a0_0, .int .i64 a0_1]] w fun e w' => e = .returned (.bool r) ∧ Below w.heap.size w w' := by
 have hu60 := Tryd.underlying60; have HB := Aside0.mk (Below.refl w.heap.size w); have H : (some (decide (a0_0 ≤ a0_1))) = some r := h; clear h; obtain rfl := Option.some.inj H
 go_enter Tryd.func81, Tryd.ntmps81
 go_wp2_with (first | ((with_reducible refine gate_dst (N := 1) rfl ?_); refine box_y 1 #[.int .i64 a0_0, .int .i64 a0_1] 60 (h := ?_); intro gb122 hg w2 hbox hb; have n0_ := Aside0.mk (below_step (sq_below HB.out) hb); have n1_ := Aside0.mk (hbox); have n2_ := ge_ hg (below_size (sq_below HB.out)); have n3_ := ge_ hg (below_size (sq_below HB.out)); clear HB; have HB := n0_; have BK122 := n1_; have GW122 := n2_; have GE122 := n3_; clear n0_ n1_ n2_ n3_; clear hb hbox hg; have hcz3_0 := cl_ (v := .int .i64 a0_0) BK122 0; have hcz3_1 := cl_ (v := .int .i64 a0_1) BK122 1; have hfz3_0 := blk_frozen BK122.out 0; have hfz3_1 := blk_frozen BK122.out 1))
 go_ret
 exact ⟨by first | rfl | (simp [errW_none, errW_some] <;> rfl) | (simp [*, errW_none, errW_some] <;> rfl), sq_below1 HB.out GE122.out⟩

end Go.Proofs.YtfeloencepgdlaaDoor.Q
