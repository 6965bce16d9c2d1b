/- Functions of the translation as Lean functions, each with a proof that a call answers so; out of the seat, by this claim's own program prt.py. -/
import Derived.Test.YtfeloencepgdlaaGreatDoorWTab
import Derived.Test.YtfeloencepgdlaaGreatDoorWRepsOne
import Derived.Test.YtfeloencepgdlaaGreatDoorQx0
import Derived.Test.YtfeloencepgdlaaGreatDoorQx4
import Derived.Test.YtfeloencepgdlaaGreatDoorQx5
import Derived.Test.YtfeloencepgdlaaGreatDoorQStep
namespace Go.Proofs.YtfeloencepgdlaaGreatDoor.Q
open Go.RowKit Go.Proofs.YtfeloencepgdlaaGreatDoorW.PrintWords Go.Proofs.YtfeloencepgdlaaGreatDoorW.PrintLast Go.Proofs.YtfeloencepgdlaaGreatDoorW.PrintMore
attribute [local go_sem] max2_int min2_int max_two min_two max_three min_three max_four min_four   -- for this text's walks alone
set_option linter.unusedVariables false
set_option linter.unusedSimpArgs false

/-! ### spec_l10In: function 31 -/
abbrev spec_l10In.b0_ : Array Bool := #[false, false, false, false, false, false, false, false]
abbrev spec_l10In.b1_ : Array Bool := #[true, false, false, false, false, false, false, false]
abbrev spec_l10In.b2_ : Array Bool := #[true, false, true, false, false, false, false, false]
abbrev spec_l10In.b3_ : Array Bool := #[true, true, true, false, false, false, false, false]
abbrev spec_l10In.b4_ : Array Bool := #[true, true, true, true, false, false, false, false]
abbrev spec_l10In.b5_ : Array Bool := #[true, true, true, true, true, false, false, false]
abbrev spec_l10In.b6_ : Array Bool := #[true, true, true, true, true, true, false, false]
abbrev spec_l10In.b7_ : Array Bool := #[true, true, true, true, true, true, true, false]
abbrev spec_l10In.b8_ : Array Bool := #[true, true, true, true, true, true, true, true]
def spec_l10In.l0 : Nat → Int → List (List (S59)) → List (S66) → List Bool → Int → Int → Option (Int)
 | 0, _, _, _, _, _, _ => none
 | k + 1, x5, x119000, x119001, x119002, x120000, x120001 => if x5 < (x119000.length : Int) then (if 0 ≤ x5 then ((spec_l10Find.f k (rd_L8 x119000 x5) x120000 x120001).bind fun t121 => (if t121 ≥ 0 then (some x5) else (spec_l10In.l0 k (wrap64 (x5 + 1)) x119000 x119001 x119002 x120000 x120001))) else (none)) else (some (-1))
def spec_l10In.f (k : Nat) (l0_0 : List (List (S59))) (l0_1 : List (S66)) (l0_2 : List Bool) (a1_0 : Int) (a1_1 : Int) : Option (Int) := spec_l10In.l0 k 0 l0_0 l0_1 l0_2 a1_0 a1_1
theorem spec_l10In.mono_l : ∀ k, (∀ y0 y1 y2 y3 y4 y5, LeO (spec_l10In.l0 k y0 y1 y2 y3 y4 y5) (spec_l10In.l0 (k + 1) y0 y1 y2 y3 y4 y5))
 | 0 => fun _ _ _ _ _ _ r h => by simp [spec_l10In.l0] at h
 | k + 1 => by
  have ih0 := spec_l10In.mono_l k
  ·
   intro y0 y1 y2 y3 y4 y5; unfold spec_l10In.l0
   repeat' first
   | (with_reducible exact ih0 _ _ _ _ _ _)
   | (with_reducible exact spec_l10Find.mono _ _ _ _)
   | (with_reducible exact LeO.refl _)
   | (with_reducible exact LeO.none _)
   | (with_reducible refine LeO.ite ?_ ?_)
   | (with_reducible refine LeO.bind ?_ (fun _ => ?_))
   | exact ih0 _ _ _ _ _ _
   | exact spec_l10Find.mono _ _ _ _
   | exact LeO.none _
   | refine LeO.ite ?_ ?_
   | refine LeO.bind ?_ (fun _ => ?_)
theorem spec_l10In.mono : ∀ a0 a1 a2 a3 a4 k, LeO (spec_l10In.f k a0 a1 a2 a3 a4) (spec_l10In.f (k + 1) a0 a1 a2 a3 a4) := by
 intro a0 a1 a2 a3 a4 k; have ih0 := spec_l10In.mono_l k; unfold spec_l10In.f
 repeat' first
   | (with_reducible exact ih0 _ _ _ _ _ _)
   | (with_reducible exact spec_l10Find.mono _ _ _ _)
   | (with_reducible exact LeO.refl _)
   | (with_reducible exact LeO.none _)
   | (with_reducible refine LeO.ite ?_ ?_)
   | (with_reducible refine LeO.bind ?_ (fun _ => ?_))
   | exact ih0 _ _ _ _ _ _
   | exact spec_l10Find.mono _ _ _ _
   | exact LeO.none _
   | refine LeO.ite ?_ ?_
   | refine LeO.bind ?_ (fun _ => ?_)
def spec_l10In.T4 : Bool × List (List Nat × List Nat) := (true, [([], []), ([0], [0]), ([], []), ([1, 2], [1, 2]), ([3], [3]), ([], []), ([4, 5], [4, 5]), ([6], [6])])
def spec_l10In.B4 : List Nat := [0, 1, 0, 7, 15, 0, 63, 127]
theorem spec_l10In.tab4 : rtab .any (opsOf Tryz.f31 4) = spec_l10In.T4 := by kernel_rfl
theorem spec_l10In.bits4 : waitsOk spec_l10In.T4.2 spec_l10In.B4 = true := by kernel_rfl
set_option maxHeartbeats 8000000 in
set_option maxRecDepth 100000 in
theorem spec_l10In.calls (k : Nat) (A0_0 : Option Addr) (c0_0 : Nat) (l0_0 : List (List (S59))) (A0_1 : Option Addr) (c0_1 : Nat) (l0_1 : List (S66)) (A0_2 : Option Addr) (c0_2 : Nat) (l0_2 : List Bool) (a1_0 : Int) (a1_1 : Int) (r : Int) (w : World) (hr0_0 : Kd.C (Kd.slice 59 k59) w A0_0 l0_0.length l0_0) (hc0_0 : l0_0.length ≤ c0_0) (hr0_1 : Kd.C k66 w A0_1 l0_1.length l0_1) (hc0_1 : l0_1.length ≤ c0_1) (hr0_2 : Kd.C Kd.bool w A0_2 l0_2.length l0_2) (hc0_2 : l0_2.length ≤ c0_2) (h : spec_l10In.f k l0_0 l0_1 l0_2 a1_0 a1_1 = some r) :
  Calls Tryz.prog 31 #[.agg #[.slice A0_0 l0_0.length c0_0, .slice A0_1 l0_1.length c0_1, .slice A0_2 l0_2.length c0_2], .agg #[.int .i64 a1_0, .int .i64 a1_1]] w fun e w' => e = .returned (.int .i64 r) ∧ Below w.heap.size w w' := by
 have hu34 := Tryz.underlying34; have hu59 := Tryz.underlying59; have HR0_0 := Aside0.mk hr0_0; have HC0_0 := Aside0.mk hc0_0; clear hr0_0 hc0_0; have HR0_1 := Aside0.mk hr0_1; have HC0_1 := Aside0.mk hc0_1; clear hr0_1 hc0_1; have HR0_2 := Aside0.mk hr0_2; have HC0_2 := Aside0.mk hc0_2; clear hr0_2 hc0_2; have HB := Aside0.mk (Below.refl w.heap.size w); have H : (spec_l10In.l0 k 0 l0_0 l0_1 l0_2 a1_0 a1_1) = some r := h; clear h; have H' := Aside0.mk H; clear H
 go_enter Tryz.func31, Tryz.ntmps31
 go_wp2_with (first | ((with_reducible refine gate_dst (N := 2) rfl ?_); refine box_y 2 #[.slice A0_0 l0_0.length c0_0, .slice A0_1 l0_1.length c0_1, .slice A0_2 l0_2.length c0_2] 34 (h := ?_); intro gb118 hg w3 hbox hb; have n0_ := Aside0.mk (below_step (sq_below HB.out) hb); have n1_ := Aside0.mk (hbox); have n2_ := ge_ hg (below_size (sq_below HB.out)); have n3_ := ge_ hg (below_size (sq_below HB.out)); clear HB; have HB := n0_; have BK118 := n1_; have GW118 := n2_; have GE118 := n3_; clear n0_ n1_ n2_ n3_; clear hb hbox hg) | ((with_reducible refine gate_dst (N := 3) rfl ?_); refine box_y 3 #[.int .i64 a1_0, .int .i64 a1_1] 59 (h := ?_); intro gb119 hg w4 hbox hb; have n0_ := Aside0.mk (blk_below (sq_blk BK118.out) hb); have n1_ := Aside0.mk (below_step (sq_below1 HB.out GE118.out) hb); have n2_ := Aside0.mk (hbox); have n3_ := ge_ hg (below_size (sq_below1 HB.out GE118.out)); have n4_ := ge_ hg (below_size (sq_below1 HB.out GE118.out)); have n5_ := nb_ hg BK118; have n6_ := Aside0.mk (Ne.symm n5_.out); clear BK118; clear HB; have BK118 := n0_; have HB := n1_; have BK119 := n2_; have GW119 := n3_; have GE119 := n4_; have NB118_119 := n5_; have NB119_118 := n6_; clear n0_ n1_ n2_ n3_ n4_ n5_ n6_; clear hb hbox hg))
 go_loopg [5] k (fun kq v5 w' => ∃ (x5_1 : Int), v5 = .int .i64 x5_1 ∧ Aside0 (spec_l10In.l0 kq x5_1 l0_0 l0_1 l0_2 a1_0 a1_1 = some r) ∧ Aside0 (kq ≤ k) ∧ Aside0 (w'.heap[gb118]? = some (.cells #[(.slice A0_0 l0_0.length c0_0), (.slice A0_1 l0_1.length c0_1), (.slice A0_2 l0_2.length c0_2)] 34 (0, 0))) ∧ Aside0 (w'.heap[gb119]? = some (.cells #[.int .i64 a1_0, .int .i64 a1_1] 59 (0, 0))) ∧ Aside0 (Below w.heap.size w w'))
 case atStart => exact ⟨(0), (by first | rfl | (simp; done) | (simp [*]; done)), H', ⟨Nat.le_refl _⟩, bk_ BK118, bk_ BK119, ⟨sq_below2 HB.out GE118.out GE119.out⟩⟩
 case round =>
  clear H'
  try clear p2
  try clear c3
  obtain ⟨x5_1, rfl, HA, HK1, BK118, BK119, HB⟩ := hrel; cases gk with
  | zero => exact absurd HA.out (by simp [spec_l10In.l0])
  | succ k1 =>
   have H := HA.out; clear HA; simp only [spec_l10In.l0] at H
   by_cases c5 : x5_1 < (l0_0.length : Int)
   ·
    rw [if_pos c5] at H; have c5b0 : decide (x5_1 < (l0_0.length : Int)) = true := decide_eq_true c5; clear c5
    by_cases c6 : 0 ≤ x5_1
    ·
     rw [if_pos c6] at H; have c6b0 : decide (0 ≤ x5_1) = true := decide_eq_true c6; clear c6; replace H := Option.bind_eq_some_iff.mp H; obtain ⟨t121, A70, H⟩ := H; (try dsimp only at H); have A7 := Aside0.mk A70; clear A70
     by_cases c8 : t121 ≥ 0
     ·
      rw [if_pos c8] at H; have c8b0 : decide (0 ≤ t121) = true := decide_eq_true c8; clear c8; obtain rfl := Option.some.inj H; have hnb9 := NB118_119.out; have hnc9 := NB119_118.out; have hcz10_0 := cl_ (v := .slice A0_0 l0_0.length c0_0) BK118 0; have hcz10_1 := cl_ (v := .slice A0_1 l0_1.length c0_1) BK118 1; have hcz10_2 := cl_ (v := .slice A0_2 l0_2.length c0_2) BK118 2; have hfz10_0 := blk_frozen BK118.out 0; have hfz10_1 := blk_frozen BK118.out 1; have hfz10_2 := blk_frozen BK118.out 2
      try go_wp2
      replace BK118 := bd_ BK118; replace BK119 := bd_ BK119; replace HB := hd_ HB; have p120 : 0 ≤ (x5_1 : Int) := sq_dec; have q120 : x5_1 < (l0_0.length : Int) := sq_dec; obtain ⟨ad120, A120_0, c120_0, e120, hx120_0, hl120_0, hi120_0⟩ := at_L8 HR0_0.out x5_1 p120 q120; have hw120_0 := hx120_0; cases e120; replace hx120_0 := (HB.out.cell (World.block_lt_of_cell? w _ hx120_0)).trans hx120_0; have HR120_0 := Aside0.mk hi120_0; have HC120_0 := Aside0.mk hl120_0; clear hi120_0 hl120_0; replace p120 := eq_true p120; replace q120 := eq_true q120; refine start_ (n := 8) (S := fun w' => w'.cell? ⟨gb118, 0, none⟩ = some (.slice (some ad120) l0_0.length c0_0) ∧ w'.cell? ⟨gb118, 1, none⟩ = some (.slice A0_1 l0_1.length c0_1) ∧ w'.cell? ⟨gb118, 2, none⟩ = some (.slice A0_2 l0_2.length c0_2) ∧ w'.cell? ⟨gb119, 0, none⟩ = some (.int .i64 a1_0) ∧ w'.cell? ⟨gb119, 1, none⟩ = some (.int .i64 a1_1) ∧ w'.cell? (ad120.add (x5_1).toNat) = some (.slice A120_0 (rd_L8 l0_0 x5_1).length c120_0)) (ds := []) spec_l10In.b0_ (by kernel_rfl) rfl rfl ⟨cl_ BK118 0, cl_ BK118 1, cl_ BK118 2, cl_ BK119 0, cl_ BK119 1, ((HB.out.cell (World.block_lt_of_cell? w _ hw120_0)).trans hw120_0)⟩ (fun hHeld => ?_); refine with_tabW spec_l10In.tab4 spec_l10In.bits4 (fun HT_ HW_ => ?_); generalize wr.drew = w11 at BK118 BK119 HB HR120_0 hx120_0 hHeld ⊢; refine pure_y 0 (some 13) spec_l10In.b1_ (any_of HT_.out (by kernel_rfl)) (h := ?_)
      refine pure_y 2 (some 15) spec_l10In.b2_ (any_of HT_.out (by kernel_rfl)) (h := ?_)
      refine take_y 1 (some 14) spec_l10In.b3_ rfl (take_ofW HT_.out HW_.out (by kernel_rfl)) hHeld (Or.inl ⟨by rfl, (by rintro w' ⟨s0, s1, s2, s3, s4, s5⟩; go_simp; with_reducible rfl)⟩) (h := ?_)
      refine pure_y 3 (some 16) spec_l10In.b4_ (any_of HT_.out (by kernel_rfl)) (h := ?_)
      refine take_y 4 (some 17) spec_l10In.b5_ rfl (take_ofW HT_.out HW_.out (by kernel_rfl)) hHeld (Or.inl ⟨by rfl, (by rintro w' ⟨s0, s1, s2, s3, s4, s5⟩; go_simp; with_reducible rfl)⟩) (h := ?_)
      refine take_y 5 (some 18) spec_l10In.b6_ rfl (take_ofW HT_.out HW_.out (by kernel_rfl)) hHeld (Or.inl ⟨by rfl, (by rintro w' ⟨s0, s1, s2, s3, s4, s5⟩; go_simp; with_reducible rfl)⟩) (h := ?_)
      refine one_ (i := 6) (N := some 19) spec_l10In.b7_ rfl rfl (one_of HT_.out (by kernel_rfl)) (by decide) (fun K hK => ?_); refine gs_ Tryz.func58 #[.slice A120_0 (rd_L8 l0_0 x5_1).length c120_0, .agg #[.int .i64 a1_0, .int .i64 a1_1]] (h := ?_); with_reducible refine (spec_l10Find.calls k1 _ _ (rd_L8 l0_0 x5_1) a1_0 a1_1 t121 _ ?side1 ?side2 A7.out).mono ?_
      (case side1 => exact sq_c (Kd.C_below HR120_0.out HB.out))
      (case side2 => exact HC120_0.out)
      rintro e w12 ⟨rfl, hb⟩; refine ⟨_, rfl, ?_⟩; replace BK118 := bb_ BK118 hb; replace BK119 := bb_ BK119 hb; replace HB := hb2_ HB hb GE118 GE119
      (try clear hb)
      (try clear hb2)
      (try clear hk)
      (try clear hi)
      refine hK.out _ _ ⟨cl_ BK118 0, cl_ BK118 1, cl_ BK118 2, cl_ BK119 0, cl_ BK119 1, ((HB.out.cell (World.block_lt_of_cell? w _ hw120_0)).trans hw120_0)⟩ (fun hHeld => ?_); clear hK K; refine norm_y 19 (h := ?_)
      refine pure_y 7 (some 20) spec_l10In.b8_ (any_of HT_.out (by kernel_rfl)) (h := ?_)
      refine done_ (done_of HT_.out (by kernel_rfl)) ?_
      try go_wp2
      go_ret
      exact ⟨by first | rfl | (simp [errW_none, errW_some] <;> rfl) | (simp [*, errW_none, errW_some] <;> rfl), sq_below2 HB.out GE118.out GE119.out⟩
     ·
      rw [if_neg c8] at H; have c8b0 : decide (0 ≤ t121) = false := decide_eq_false c8; clear c8; have H' := Aside0.mk H; clear H; have hnb13 := NB118_119.out; have hnc13 := NB119_118.out; have hcz14_0 := cl_ (v := .slice A0_0 l0_0.length c0_0) BK118 0; have hcz14_1 := cl_ (v := .slice A0_1 l0_1.length c0_1) BK118 1; have hcz14_2 := cl_ (v := .slice A0_2 l0_2.length c0_2) BK118 2; have hfz14_0 := blk_frozen BK118.out 0; have hfz14_1 := blk_frozen BK118.out 1; have hfz14_2 := blk_frozen BK118.out 2
      try go_wp2
      replace BK118 := bd_ BK118; replace BK119 := bd_ BK119; replace HB := hd_ HB; have p120 : 0 ≤ (x5_1 : Int) := sq_dec; have q120 : x5_1 < (l0_0.length : Int) := sq_dec; obtain ⟨ad120, A120_0, c120_0, e120, hx120_0, hl120_0, hi120_0⟩ := at_L8 HR0_0.out x5_1 p120 q120; have hw120_0 := hx120_0; cases e120; replace hx120_0 := (HB.out.cell (World.block_lt_of_cell? w _ hx120_0)).trans hx120_0; have HR120_0 := Aside0.mk hi120_0; have HC120_0 := Aside0.mk hl120_0; clear hi120_0 hl120_0; replace p120 := eq_true p120; replace q120 := eq_true q120; refine start_ (n := 8) (S := fun w' => w'.cell? ⟨gb118, 0, none⟩ = some (.slice (some ad120) l0_0.length c0_0) ∧ w'.cell? ⟨gb118, 1, none⟩ = some (.slice A0_1 l0_1.length c0_1) ∧ w'.cell? ⟨gb118, 2, none⟩ = some (.slice A0_2 l0_2.length c0_2) ∧ w'.cell? ⟨gb119, 0, none⟩ = some (.int .i64 a1_0) ∧ w'.cell? ⟨gb119, 1, none⟩ = some (.int .i64 a1_1) ∧ w'.cell? (ad120.add (x5_1).toNat) = some (.slice A120_0 (rd_L8 l0_0 x5_1).length c120_0)) (ds := []) spec_l10In.b0_ (by kernel_rfl) rfl rfl ⟨cl_ BK118 0, cl_ BK118 1, cl_ BK118 2, cl_ BK119 0, cl_ BK119 1, ((HB.out.cell (World.block_lt_of_cell? w _ hw120_0)).trans hw120_0)⟩ (fun hHeld => ?_); refine with_tabW spec_l10In.tab4 spec_l10In.bits4 (fun HT_ HW_ => ?_); generalize wr.drew = w15 at BK118 BK119 HB HR120_0 hx120_0 hHeld ⊢; refine pure_y 0 (some 13) spec_l10In.b1_ (any_of HT_.out (by kernel_rfl)) (h := ?_)
      refine pure_y 2 (some 15) spec_l10In.b2_ (any_of HT_.out (by kernel_rfl)) (h := ?_)
      refine take_y 1 (some 14) spec_l10In.b3_ rfl (take_ofW HT_.out HW_.out (by kernel_rfl)) hHeld (Or.inl ⟨by rfl, (by rintro w' ⟨s0, s1, s2, s3, s4, s5⟩; go_simp; with_reducible rfl)⟩) (h := ?_)
      refine pure_y 3 (some 16) spec_l10In.b4_ (any_of HT_.out (by kernel_rfl)) (h := ?_)
      refine take_y 4 (some 17) spec_l10In.b5_ rfl (take_ofW HT_.out HW_.out (by kernel_rfl)) hHeld (Or.inl ⟨by rfl, (by rintro w' ⟨s0, s1, s2, s3, s4, s5⟩; go_simp; with_reducible rfl)⟩) (h := ?_)
      refine take_y 5 (some 18) spec_l10In.b6_ rfl (take_ofW HT_.out HW_.out (by kernel_rfl)) hHeld (Or.inl ⟨by rfl, (by rintro w' ⟨s0, s1, s2, s3, s4, s5⟩; go_simp; with_reducible rfl)⟩) (h := ?_)
      refine one_ (i := 6) (N := some 19) spec_l10In.b7_ rfl rfl (one_of HT_.out (by kernel_rfl)) (by decide) (fun K hK => ?_); refine gs_ Tryz.func58 #[.slice A120_0 (rd_L8 l0_0 x5_1).length c120_0, .agg #[.int .i64 a1_0, .int .i64 a1_1]] (h := ?_); with_reducible refine (spec_l10Find.calls k1 _ _ (rd_L8 l0_0 x5_1) a1_0 a1_1 t121 _ ?side1 ?side2 A7.out).mono ?_
      (case side1 => exact sq_c (Kd.C_below HR120_0.out HB.out))
      (case side2 => exact HC120_0.out)
      rintro e w16 ⟨rfl, hb⟩; refine ⟨_, rfl, ?_⟩; replace BK118 := bb_ BK118 hb; replace BK119 := bb_ BK119 hb; replace HB := hb2_ HB hb GE118 GE119
      (try clear hb)
      (try clear hb2)
      (try clear hk)
      (try clear hi)
      refine hK.out _ _ ⟨cl_ BK118 0, cl_ BK118 1, cl_ BK118 2, cl_ BK119 0, cl_ BK119 1, ((HB.out.cell (World.block_lt_of_cell? w _ hw120_0)).trans hw120_0)⟩ (fun hHeld => ?_); clear hK K; refine norm_y 19 (h := ?_)
      refine pure_y 7 (some 20) spec_l10In.b8_ (any_of HT_.out (by kernel_rfl)) (h := ?_)
      refine done_ (done_of HT_.out (by kernel_rfl)) ?_
      try go_wp2
      go_roundg k1
      case measure => have := HK1.out; omega
      case rel => exact ⟨(wrap64 (x5_1 + 1)), (by first | rfl | (simp; done) | (simp [*]; done)), H', ⟨by have := HK1.out; omega⟩, bk_ BK118, bk_ BK119, ⟨sq_below2 HB.out GE118.out GE119.out⟩⟩
    ·
     rw [if_neg c6] at H; exact absurd H (by simp)
   ·
    rw [if_neg c5] at H; have c5b0 : decide (x5_1 < (l0_0.length : Int)) = false := decide_eq_false c5; clear c5; obtain rfl := Option.some.inj H; have hcz17_0 := cl_ (v := .slice A0_0 l0_0.length c0_0) BK118 0; have hcz17_1 := cl_ (v := .slice A0_1 l0_1.length c0_1) BK118 1; have hcz17_2 := cl_ (v := .slice A0_2 l0_2.length c0_2) BK118 2; have hfz17_0 := blk_frozen BK118.out 0; have hfz17_1 := blk_frozen BK118.out 1; have hfz17_2 := blk_frozen BK118.out 2
    go_wp2
    go_ret
    exact ⟨by first | rfl | (simp [errW_none, errW_some] <;> rfl) | (simp [*, errW_none, errW_some] <;> rfl), sq_below1 HB.out GE118.out⟩

/-! ### spec_l06Is: function 85 -/
def spec_l06Is.f (a0_0 : Int) (a0_1 : Int) : Option (Bool) := some (decide (a0_0 ≤ a0_1))
set_option maxHeartbeats 8000000 in
set_option maxRecDepth 100000 in
theorem spec_l06Is.calls (a0_0 : Int) (a0_1 : Int) (r : Bool) (w : World) (h : spec_l06Is.f a0_0 a0_1 = some r) :
  Calls Tryz.prog 85 #[.agg #[.int .i64 a0_0, .int .i64 a0_1]] w fun e w' => e = .returned (.bool r) ∧ Below w.heap.size w w' := by
 have hu64 := Tryz.underlying64; have HB := Aside0.mk (Below.refl w.heap.size w); have H : (some (decide (a0_0 ≤ a0_1))) = some r := h; clear h; obtain rfl := Option.some.inj H
 go_enter Tryz.func85, Tryz.ntmps85
 go_wp2_with (first | ((with_reducible refine gate_dst (N := 1) rfl ?_); refine box_y 1 #[.int .i64 a0_0, .int .i64 a0_1] 64 (h := ?_); intro gb122 hg w2 hbox hb; have n0_ := Aside0.mk (below_step (sq_below HB.out) hb); have n1_ := Aside0.mk (hbox); have n2_ := ge_ hg (below_size (sq_below HB.out)); have n3_ := ge_ hg (below_size (sq_below HB.out)); clear HB; have HB := n0_; have BK122 := n1_; have GW122 := n2_; have GE122 := n3_; clear n0_ n1_ n2_ n3_; clear hb hbox hg; have hcz3_0 := cl_ (v := .int .i64 a0_0) BK122 0; have hcz3_1 := cl_ (v := .int .i64 a0_1) BK122 1; have hfz3_0 := blk_frozen BK122.out 0; have hfz3_1 := blk_frozen BK122.out 1))
 go_ret
 exact ⟨by first | rfl | (simp [errW_none, errW_some] <;> rfl) | (simp [*, errW_none, errW_some] <;> rfl), sq_below1 HB.out GE122.out⟩

/-! ### spec_l05Val: function 86 -/
def spec_l05Val.f (a0 : Int) : Option (Bool) := (spec_l01Between.f a0 (-1000000) 1000000).bind fun t123 => (some t123)
set_option maxHeartbeats 8000000 in
set_option maxRecDepth 100000 in
theorem spec_l05Val.calls (a0 : Int) (r : Bool) (w : World) (h : spec_l05Val.f a0 = some r) :
  Calls Tryz.prog 86 #[.int .i64 a0] w fun e w' => e = .returned (.bool r) ∧ Drawn0 w w' := by
 have H : ((spec_l01Between.f a0 (-1000000) 1000000).bind fun t123 => (some t123)) = some r := h; clear h; replace H := Option.bind_eq_some_iff.mp H; obtain ⟨t123, A20, H⟩ := H; replace H : (some t123) = some r := H; have A2 := Aside0.mk A20; clear A20; obtain rfl := Option.some.inj H
 go_enter Tryz.func86, Tryz.ntmps86
 go_wp2_with (first | ((with_reducible refine gate_callee (f := 57) rfl ?_); refine gl_ 4 Tryz.func57 #[.int .i64 a0, .int .i64 (-1000000), .int .i64 1000000] (h := ?_); (with_reducible refine (spec_l01Between.calls a0 (-1000000) 1000000 t123 _ A2.out).mono ?_); rintro e w' ⟨rfl, ⟨nd, rfl⟩⟩; refine ⟨_, rfl, ?_⟩))
 go_ret
 exact ⟨by first | rfl | (simp; done) | (simp [*]; done), by repeat (first | exact Drawn0.refl _ | apply Drawn0.step)⟩

end Go.Proofs.YtfeloencepgdlaaGreatDoor.Q
