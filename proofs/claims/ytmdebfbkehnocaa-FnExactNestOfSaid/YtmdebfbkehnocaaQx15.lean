/- Functions of the translation as Lean functions, each with a proof that a call answers so; out of the seat, by this claim's own program prt.py. -/
import Derived.Test.YtmdebfbkehnocaaWTab
import Derived.Test.YtmdebfbkehnocaaWRepsOne
import Derived.Test.YtmdebfbkehnocaaQx0
import Derived.Test.YtmdebfbkehnocaaQx14
import Derived.Test.YtmdebfbkehnocaaQStep
namespace Go.Proofs.Ytmdebfbkehnocaa.Q
open Go.RowKit Go.Proofs.YtmdebfbkehnocaaW.PrintWords Go.Proofs.YtmdebfbkehnocaaW.PrintLast Go.Proofs.YtmdebfbkehnocaaW.PrintMore
attribute [local go_sem] max2_int min2_int max_two min_two max_three min_three max_four min_four   -- for this text's walks alone
set_option linter.unusedVariables false
set_option linter.unusedSimpArgs false

/-! ### laws_eqEdgeS: function 21 -/
abbrev laws_eqEdgeS.b0_ : Array Bool := #[false, false, false, false, false, false, false, false, false, false]
abbrev laws_eqEdgeS.b1_ : Array Bool := #[true, false, false, false, false, false, false, false, false, false]
abbrev laws_eqEdgeS.b2_ : Array Bool := #[true, true, false, false, false, false, false, false, false, false]
abbrev laws_eqEdgeS.b3_ : Array Bool := #[true, true, true, false, false, false, false, false, false, false]
abbrev laws_eqEdgeS.b4_ : Array Bool := #[true, true, true, false, true, false, false, false, false, false]
abbrev laws_eqEdgeS.b5_ : Array Bool := #[true, true, true, false, true, true, false, false, false, false]
abbrev laws_eqEdgeS.b6_ : Array Bool := #[true, true, true, false, true, true, true, false, false, false]
abbrev laws_eqEdgeS.b7_ : Array Bool := #[true, true, true, true, true, true, true, false, false, false]
abbrev laws_eqEdgeS.b8_ : Array Bool := #[true, true, true, true, true, true, true, true, false, false]
abbrev laws_eqEdgeS.b9_ : Array Bool := #[true, true, true, true, true, true, true, true, true, false]
abbrev laws_eqEdgeS.b10_ : Array Bool := #[true, true, true, true, true, true, true, true, true, true]
def laws_eqEdgeS.l0 : Nat → List (S58) → List (S58) → Int → Option (Bool)
 | 0, _, _, _ => none
 | k + 1, x0, x1, x5 => if x5 < (x0.length : Int) then (if 0 ≤ x5 then (if x5 < (x1.length : Int) then ((laws_eqEdge.f k ((rd_T58 x0 x5).f0) ((rd_T58 x0 x5).f1) ((rd_T58 x0 x5).f2) ((rd_T58 x0 x5).f3) ((rd_T58 x0 x5).f4.f0) ((rd_T58 x0 x5).f4.f1) ((rd_T58 x0 x5).f4.f2) ((rd_T58 x0 x5).f4.f3) ((rd_T58 x1 x5).f0) ((rd_T58 x1 x5).f1) ((rd_T58 x1 x5).f2) ((rd_T58 x1 x5).f3) ((rd_T58 x1 x5).f4.f0) ((rd_T58 x1 x5).f4.f1) ((rd_T58 x1 x5).f4.f2) ((rd_T58 x1 x5).f4.f3)).bind fun t258 => (if t258 = true then (laws_eqEdgeS.l0 k x0 x1 (wrap64 (x5 + 1))) else (some false))) else (none)) else (none)) else (some true)
def laws_eqEdgeS.f (k : Nat) (l0 : List (S58)) (l1 : List (S58)) : Option (Bool) := if (l0.length : Int) = (l1.length : Int) then (laws_eqEdgeS.l0 k l0 l1 0) else (some false)
theorem laws_eqEdgeS.mono_l : ∀ k, (∀ y0 y1 y2, LeO (laws_eqEdgeS.l0 k y0 y1 y2) (laws_eqEdgeS.l0 (k + 1) y0 y1 y2))
 | 0 => fun _ _ _ r h => by simp [laws_eqEdgeS.l0] at h
 | k + 1 => by
  have ih0 := laws_eqEdgeS.mono_l k
  ·
   intro y0 y1 y2; unfold laws_eqEdgeS.l0
   repeat' first
   | (with_reducible exact ih0 _ _ _)
   | (with_reducible exact laws_eqEdge.mono _ _ _ _ _ _ _ _ _ _ _ _ _ _ _ _ _)
   | (with_reducible exact LeO.refl _)
   | (with_reducible exact LeO.none _)
   | (with_reducible refine LeO.ite ?_ ?_)
   | (with_reducible refine LeO.bind ?_ (fun _ => ?_))
   | exact ih0 _ _ _
   | exact laws_eqEdge.mono _ _ _ _ _ _ _ _ _ _ _ _ _ _ _ _ _
   | exact LeO.none _
   | refine LeO.ite ?_ ?_
   | refine LeO.bind ?_ (fun _ => ?_)
theorem laws_eqEdgeS.mono : ∀ a0 a1 k, LeO (laws_eqEdgeS.f k a0 a1) (laws_eqEdgeS.f (k + 1) a0 a1) := by
 intro a0 a1 k; have ih0 := laws_eqEdgeS.mono_l k; unfold laws_eqEdgeS.f
 repeat' first
   | (with_reducible exact ih0 _ _ _)
   | (with_reducible exact laws_eqEdge.mono _ _ _ _ _ _ _ _ _ _ _ _ _ _ _ _ _)
   | (with_reducible exact LeO.refl _)
   | (with_reducible exact LeO.none _)
   | (with_reducible refine LeO.ite ?_ ?_)
   | (with_reducible refine LeO.bind ?_ (fun _ => ?_))
   | exact ih0 _ _ _
   | exact laws_eqEdge.mono _ _ _ _ _ _ _ _ _ _ _ _ _ _ _ _ _
   | exact LeO.none _
   | refine LeO.ite ?_ ?_
   | refine LeO.bind ?_ (fun _ => ?_)
def laws_eqEdgeS.T6 : Bool × List (List Nat × List Nat) := (true, [([], []), ([], []), ([0, 1], [0, 1]), ([2], [2]), ([], []), ([], []), ([4, 5], [4, 5]), ([6], [6]), ([3, 7], [3, 7]), ([8], [8])])
def laws_eqEdgeS.B6 : List Nat := [0, 0, 3, 7, 0, 0, 48, 112, 255, 511]
theorem laws_eqEdgeS.tab6 : rtab .any (opsOf Try.f21 6) = laws_eqEdgeS.T6 := by kernel_rfl
theorem laws_eqEdgeS.bits6 : waitsOk laws_eqEdgeS.T6.2 laws_eqEdgeS.B6 = true := by kernel_rfl
set_option maxHeartbeats 8000000 in
set_option maxRecDepth 100000 in
theorem laws_eqEdgeS.calls (k : Nat) (A0 : Option Addr) (c0 : Nat) (l0 : List (S58)) (A1 : Option Addr) (c1 : Nat) (l1 : List (S58)) (r : Bool) (w : World) (hr0 : Kd.C k58 w A0 l0.length l0) (hc0 : l0.length ≤ c0) (hr1 : Kd.C k58 w A1 l1.length l1) (hc1 : l1.length ≤ c1) (h : laws_eqEdgeS.f k l0 l1 = some r) :
  Calls Try.prog 21 #[.slice A0 l0.length c0, .slice A1 l1.length c1] w fun e w' => e = .returned (.bool r) ∧ Below w.heap.size w w' := by
 have hu58 := Try.underlying58; have HR0 := Aside0.mk hr0; have HC0 := Aside0.mk hc0; clear hr0 hc0; have HR1 := Aside0.mk hr1; have HC1 := Aside0.mk hc1; clear hr1 hc1; have HB := Aside0.mk (Below.refl w.heap.size w); have H : (if (l0.length : Int) = (l1.length : Int) then (laws_eqEdgeS.l0 k l0 l1 0) else (some false)) = some r := h; clear h
 by_cases c3 : (l0.length : Int) = (l1.length : Int)
 ·
  rw [if_pos c3] at H; have c3b0 : ((l0.length : Int) == (l1.length : Int)) = true := beq_iff_eq.mpr c3; have c3b1 : ((l0.length : Int) != (l1.length : Int)) = false := bne_eq_false_iff_eq.mpr c3; have c3b2 : (l0.length == l1.length) = true := by first | simpa using c3 | (simp at c3 ⊢; omega)
  clear c3; have H' := Aside0.mk H; clear H
  go_enter Try.func21, Try.ntmps21
  go_wp2
  go_loopg [5] k (fun kq v5 w' => ∃ (x5_1 : Int), v5 = .int .i64 x5_1 ∧ Aside0 (laws_eqEdgeS.l0 kq l0 l1 x5_1 = some r) ∧ Aside0 (kq ≤ k) ∧ Aside0 (Below w.heap.size w w'))
  case atStart => exact ⟨(0), (by first | rfl | (simp; done) | (simp [*]; done)), H', ⟨Nat.le_refl _⟩, ⟨sq_below HB.out⟩⟩
  case round =>
   clear H'
   try clear c1
   try clear c2
   try clear p2
   try clear c3
   try clear c3b0
   try clear c3b1
   try clear c3b2
   obtain ⟨x5_1, rfl, HA, HK1, HB⟩ := hrel; cases gk with
   | zero => exact absurd HA.out (by simp [laws_eqEdgeS.l0])
   | succ k1 =>
    have H := HA.out; clear HA; simp only [laws_eqEdgeS.l0] at H
    by_cases c4 : x5_1 < (l0.length : Int)
    ·
     rw [if_pos c4] at H; have c4b0 : decide (x5_1 < (l0.length : Int)) = true := decide_eq_true c4; clear c4
     by_cases c5 : 0 ≤ x5_1
     ·
      rw [if_pos c5] at H; have c5b0 : decide (0 ≤ x5_1) = true := decide_eq_true c5; clear c5
      by_cases c6 : x5_1 < (l1.length : Int)
      ·
       rw [if_pos c6] at H; have c6b0 : decide (x5_1 < (l1.length : Int)) = true := decide_eq_true c6; clear c6; replace H := Option.bind_eq_some_iff.mp H; obtain ⟨t258, A70, H⟩ := H; (try dsimp only at H); have A7 := Aside0.mk A70; clear A70
       by_cases c8 : t258 = true
       ·
        subst c8; have H1 := ifp_ H
        clear H; have H := H1; clear H1; have H' := Aside0.mk H; clear H
        try go_wp2
        replace HB := hd_ HB; have p256 : 0 ≤ (x5_1 : Int) := sq_dec; have q256 : x5_1 < (l0.length : Int) := sq_dec; obtain ⟨ad256, A256_7, c256_7, e256, hx256_0, hx256_1, hx256_2, hx256_3, hx256_4, hx256_5, hx256_6, hx256_7, hl256_7, hi256_7⟩ := at_T58 HR0.out x5_1 p256 q256; have hw256_7 := hx256_7; have hw256_6 := hx256_6; have hw256_5 := hx256_5; have hw256_4 := hx256_4; have hw256_3 := hx256_3; have hw256_2 := hx256_2; have hw256_1 := hx256_1; have hw256_0 := hx256_0; cases e256; replace hx256_0 := (HB.out.cell (World.block_lt_of_cell? w _ hx256_0)).trans hx256_0; replace hx256_1 := (HB.out.cell (World.block_lt_of_cell? w _ hx256_1)).trans hx256_1; replace hx256_2 := (HB.out.cell (World.block_lt_of_cell? w _ hx256_2)).trans hx256_2; replace hx256_3 := (HB.out.cell (World.block_lt_of_cell? w _ hx256_3)).trans hx256_3; replace hx256_4 := (HB.out.cell (World.block_lt_of_cell? w _ hx256_4)).trans hx256_4; replace hx256_5 := (HB.out.cell (World.block_lt_of_cell? w _ hx256_5)).trans hx256_5; replace hx256_6 := (HB.out.cell (World.block_lt_of_cell? w _ hx256_6)).trans hx256_6; replace hx256_7 := (HB.out.cell (World.block_lt_of_cell? w _ hx256_7)).trans hx256_7; have HR256_7 := Aside0.mk hi256_7; have HC256_7 := Aside0.mk hl256_7; clear hi256_7 hl256_7; replace p256 := eq_true p256; replace q256 := eq_true q256; have p257 : 0 ≤ (x5_1 : Int) := sq_dec; have q257 : x5_1 < (l1.length : Int) := sq_dec; obtain ⟨ad257, A257_7, c257_7, e257, hx257_0, hx257_1, hx257_2, hx257_3, hx257_4, hx257_5, hx257_6, hx257_7, hl257_7, hi257_7⟩ := at_T58 HR1.out x5_1 p257 q257; have hw257_7 := hx257_7; have hw257_6 := hx257_6; have hw257_5 := hx257_5; have hw257_4 := hx257_4; have hw257_3 := hx257_3; have hw257_2 := hx257_2; have hw257_1 := hx257_1; have hw257_0 := hx257_0; cases e257; replace hx257_0 := (HB.out.cell (World.block_lt_of_cell? w _ hx257_0)).trans hx257_0; replace hx257_1 := (HB.out.cell (World.block_lt_of_cell? w _ hx257_1)).trans hx257_1; replace hx257_2 := (HB.out.cell (World.block_lt_of_cell? w _ hx257_2)).trans hx257_2; replace hx257_3 := (HB.out.cell (World.block_lt_of_cell? w _ hx257_3)).trans hx257_3; replace hx257_4 := (HB.out.cell (World.block_lt_of_cell? w _ hx257_4)).trans hx257_4; replace hx257_5 := (HB.out.cell (World.block_lt_of_cell? w _ hx257_5)).trans hx257_5; replace hx257_6 := (HB.out.cell (World.block_lt_of_cell? w _ hx257_6)).trans hx257_6; replace hx257_7 := (HB.out.cell (World.block_lt_of_cell? w _ hx257_7)).trans hx257_7; have HR257_7 := Aside0.mk hi257_7; have HC257_7 := Aside0.mk hl257_7; clear hi257_7 hl257_7; replace p257 := eq_true p257; replace q257 := eq_true q257; refine start_ (n := 10) (S := fun w' => w'.cell? (ad256.add ((x5_1).toNat * 8)) = some (.int .i64 ((rd_T58 l0 x5_1).f0)) ∧ w'.cell? ⟨(ad256.add ((x5_1).toNat * 8)).block, (ad256.add ((x5_1).toNat * 8)).off + 1, none⟩ = some (.int .i64 ((rd_T58 l0 x5_1).f1)) ∧ w'.cell? ⟨(ad256.add ((x5_1).toNat * 8)).block, (ad256.add ((x5_1).toNat * 8)).off + 2, none⟩ = some (.int .i64 ((rd_T58 l0 x5_1).f2)) ∧ w'.cell? ⟨(ad256.add ((x5_1).toNat * 8)).block, (ad256.add ((x5_1).toNat * 8)).off + 3, none⟩ = some (.bool ((rd_T58 l0 x5_1).f3)) ∧ w'.cell? ⟨(ad256.add ((x5_1).toNat * 8)).block, (ad256.add ((x5_1).toNat * 8)).off + 4, none⟩ = some (.int .i64 ((rd_T58 l0 x5_1).f4.f0)) ∧ w'.cell? ⟨(ad256.add ((x5_1).toNat * 8)).block, (ad256.add ((x5_1).toNat * 8)).off + 5, none⟩ = some (.string ((rd_T58 l0 x5_1).f4.f1)) ∧ w'.cell? ⟨(ad256.add ((x5_1).toNat * 8)).block, (ad256.add ((x5_1).toNat * 8)).off + 6, none⟩ = some (.int .i64 ((rd_T58 l0 x5_1).f4.f2)) ∧ w'.cell? ⟨(ad256.add ((x5_1).toNat * 8)).block, (ad256.add ((x5_1).toNat * 8)).off + 7, none⟩ = some (.slice A256_7 ((rd_T58 l0 x5_1).f4.f3).length c256_7) ∧ w'.cell? (ad257.add ((x5_1).toNat * 8)) = some (.int .i64 ((rd_T58 l1 x5_1).f0)) ∧ w'.cell? ⟨(ad257.add ((x5_1).toNat * 8)).block, (ad257.add ((x5_1).toNat * 8)).off + 1, none⟩ = some (.int .i64 ((rd_T58 l1 x5_1).f1)) ∧ w'.cell? ⟨(ad257.add ((x5_1).toNat * 8)).block, (ad257.add ((x5_1).toNat * 8)).off + 2, none⟩ = some (.int .i64 ((rd_T58 l1 x5_1).f2)) ∧ w'.cell? ⟨(ad257.add ((x5_1).toNat * 8)).block, (ad257.add ((x5_1).toNat * 8)).off + 3, none⟩ = some (.bool ((rd_T58 l1 x5_1).f3)) ∧ w'.cell? ⟨(ad257.add ((x5_1).toNat * 8)).block, (ad257.add ((x5_1).toNat * 8)).off + 4, none⟩ = some (.int .i64 ((rd_T58 l1 x5_1).f4.f0)) ∧ w'.cell? ⟨(ad257.add ((x5_1).toNat * 8)).block, (ad257.add ((x5_1).toNat * 8)).off + 5, none⟩ = some (.string ((rd_T58 l1 x5_1).f4.f1)) ∧ w'.cell? ⟨(ad257.add ((x5_1).toNat * 8)).block, (ad257.add ((x5_1).toNat * 8)).off + 6, none⟩ = some (.int .i64 ((rd_T58 l1 x5_1).f4.f2)) ∧ w'.cell? ⟨(ad257.add ((x5_1).toNat * 8)).block, (ad257.add ((x5_1).toNat * 8)).off + 7, none⟩ = some (.slice A257_7 ((rd_T58 l1 x5_1).f4.f3).length c257_7)) (ds := []) laws_eqEdgeS.b0_ (by kernel_rfl) rfl rfl ⟨((HB.out.cell (World.block_lt_of_cell? w _ hw256_0)).trans hw256_0), ((HB.out.cell (World.block_lt_of_cell? w _ hw256_1)).trans hw256_1), ((HB.out.cell (World.block_lt_of_cell? w _ hw256_2)).trans hw256_2), ((HB.out.cell (World.block_lt_of_cell? w _ hw256_3)).trans hw256_3), ((HB.out.cell (World.block_lt_of_cell? w _ hw256_4)).trans hw256_4), ((HB.out.cell (World.block_lt_of_cell? w _ hw256_5)).trans hw256_5), ((HB.out.cell (World.block_lt_of_cell? w _ hw256_6)).trans hw256_6), ((HB.out.cell (World.block_lt_of_cell? w _ hw256_7)).trans hw256_7), ((HB.out.cell (World.block_lt_of_cell? w _ hw257_0)).trans hw257_0), ((HB.out.cell (World.block_lt_of_cell? w _ hw257_1)).trans hw257_1), ((HB.out.cell (World.block_lt_of_cell? w _ hw257_2)).trans hw257_2), ((HB.out.cell (World.block_lt_of_cell? w _ hw257_3)).trans hw257_3), ((HB.out.cell (World.block_lt_of_cell? w _ hw257_4)).trans hw257_4), ((HB.out.cell (World.block_lt_of_cell? w _ hw257_5)).trans hw257_5), ((HB.out.cell (World.block_lt_of_cell? w _ hw257_6)).trans hw257_6), ((HB.out.cell (World.block_lt_of_cell? w _ hw257_7)).trans hw257_7)⟩ (fun hHeld => ?_); refine with_tabW laws_eqEdgeS.tab6 laws_eqEdgeS.bits6 (fun HT_ HW_ => ?_); generalize wr.drew = w9 at HB HR256_7 HR257_7 hx256_0 hx256_1 hx256_2 hx256_3 hx256_4 hx256_5 hx256_6 hx256_7 hx257_0 hx257_1 hx257_2 hx257_3 hx257_4 hx257_5 hx257_6 hx257_7 hHeld ⊢; refine pure_y 0 (some 17) laws_eqEdgeS.b1_ (any_of HT_.out (by kernel_rfl)) (h := ?_)
        refine pure_y 1 (some 18) laws_eqEdgeS.b2_ (any_of HT_.out (by kernel_rfl)) (h := ?_)
        refine pure_y 2 (some 19) laws_eqEdgeS.b3_ (any_of HT_.out (by kernel_rfl)) (h := ?_)
        refine pure_y 4 (some 21) laws_eqEdgeS.b4_ (any_of HT_.out (by kernel_rfl)) (h := ?_)
        refine pure_y 5 (some 22) laws_eqEdgeS.b5_ (any_of HT_.out (by kernel_rfl)) (h := ?_)
        refine pure_y 6 (some 23) laws_eqEdgeS.b6_ (any_of HT_.out (by kernel_rfl)) (h := ?_)
        refine take_y 3 (some 20) laws_eqEdgeS.b7_ rfl (take_ofW HT_.out HW_.out (by kernel_rfl)) hHeld (Or.inl ⟨by rfl, (by rintro w' ⟨s0, s1, s2, s3, s4, s5, s6, s7, s8, s9, s10, s11, s12, s13, s14, s15⟩; go_simp; with_reducible rfl)⟩) (h := ?_)
        refine take_y 7 (some 24) laws_eqEdgeS.b8_ rfl (take_ofW HT_.out HW_.out (by kernel_rfl)) hHeld (Or.inl ⟨by rfl, (by rintro w' ⟨s0, s1, s2, s3, s4, s5, s6, s7, s8, s9, s10, s11, s12, s13, s14, s15⟩; go_simp; with_reducible rfl)⟩) (h := ?_)
        refine one_ (i := 8) (N := some 25) laws_eqEdgeS.b9_ rfl rfl (one_of HT_.out (by kernel_rfl)) (by decide) (fun K hK => ?_); refine gs_ Try.func33 #[.agg #[.int .i64 ((rd_T58 l0 x5_1).f0), .int .i64 ((rd_T58 l0 x5_1).f1), .int .i64 ((rd_T58 l0 x5_1).f2), .bool ((rd_T58 l0 x5_1).f3), .int .i64 ((rd_T58 l0 x5_1).f4.f0), .string ((rd_T58 l0 x5_1).f4.f1), .int .i64 ((rd_T58 l0 x5_1).f4.f2), .slice A256_7 ((rd_T58 l0 x5_1).f4.f3).length c256_7], .agg #[.int .i64 ((rd_T58 l1 x5_1).f0), .int .i64 ((rd_T58 l1 x5_1).f1), .int .i64 ((rd_T58 l1 x5_1).f2), .bool ((rd_T58 l1 x5_1).f3), .int .i64 ((rd_T58 l1 x5_1).f4.f0), .string ((rd_T58 l1 x5_1).f4.f1), .int .i64 ((rd_T58 l1 x5_1).f4.f2), .slice A257_7 ((rd_T58 l1 x5_1).f4.f3).length c257_7]] (h := ?_); with_reducible refine (laws_eqEdge.calls k1 ((rd_T58 l0 x5_1).f0) ((rd_T58 l0 x5_1).f1) ((rd_T58 l0 x5_1).f2) ((rd_T58 l0 x5_1).f3) ((rd_T58 l0 x5_1).f4.f0) ((rd_T58 l0 x5_1).f4.f1) ((rd_T58 l0 x5_1).f4.f2) _ _ ((rd_T58 l0 x5_1).f4.f3) ((rd_T58 l1 x5_1).f0) ((rd_T58 l1 x5_1).f1) ((rd_T58 l1 x5_1).f2) ((rd_T58 l1 x5_1).f3) ((rd_T58 l1 x5_1).f4.f0) ((rd_T58 l1 x5_1).f4.f1) ((rd_T58 l1 x5_1).f4.f2) _ _ ((rd_T58 l1 x5_1).f4.f3) true _ ?side1 ?side2 ?side3 ?side4 A7.out).mono ?_
        (case side1 => exact sq_c (Kd.C_below HR256_7.out HB.out))
        (case side2 => exact HC256_7.out)
        (case side3 => exact sq_c (Kd.C_below HR257_7.out HB.out))
        (case side4 => exact HC257_7.out)
        rintro e w10 ⟨rfl, hb⟩; refine ⟨_, rfl, ?_⟩; replace HB := hb_ HB hb
        (try clear hb)
        (try clear hb2)
        (try clear hk)
        (try clear hi)
        refine hK.out _ _ ⟨((HB.out.cell (World.block_lt_of_cell? w _ hw256_0)).trans hw256_0), ((HB.out.cell (World.block_lt_of_cell? w _ hw256_1)).trans hw256_1), ((HB.out.cell (World.block_lt_of_cell? w _ hw256_2)).trans hw256_2), ((HB.out.cell (World.block_lt_of_cell? w _ hw256_3)).trans hw256_3), ((HB.out.cell (World.block_lt_of_cell? w _ hw256_4)).trans hw256_4), ((HB.out.cell (World.block_lt_of_cell? w _ hw256_5)).trans hw256_5), ((HB.out.cell (World.block_lt_of_cell? w _ hw256_6)).trans hw256_6), ((HB.out.cell (World.block_lt_of_cell? w _ hw256_7)).trans hw256_7), ((HB.out.cell (World.block_lt_of_cell? w _ hw257_0)).trans hw257_0), ((HB.out.cell (World.block_lt_of_cell? w _ hw257_1)).trans hw257_1), ((HB.out.cell (World.block_lt_of_cell? w _ hw257_2)).trans hw257_2), ((HB.out.cell (World.block_lt_of_cell? w _ hw257_3)).trans hw257_3), ((HB.out.cell (World.block_lt_of_cell? w _ hw257_4)).trans hw257_4), ((HB.out.cell (World.block_lt_of_cell? w _ hw257_5)).trans hw257_5), ((HB.out.cell (World.block_lt_of_cell? w _ hw257_6)).trans hw257_6), ((HB.out.cell (World.block_lt_of_cell? w _ hw257_7)).trans hw257_7)⟩ (fun hHeld => ?_); clear hK K; refine norm_y 25 (h := ?_)
        refine pure_y 9 (some 26) laws_eqEdgeS.b10_ (any_of HT_.out (by kernel_rfl)) (h := ?_)
        refine done_ (done_of HT_.out (by kernel_rfl)) ?_
        try go_wp2
        go_roundg k1
        case measure => have := HK1.out; omega
        case rel => exact ⟨(wrap64 (x5_1 + 1)), (by first | rfl | (simp; done) | (simp [*]; done)), H', ⟨by have := HK1.out; omega⟩, ⟨sq_below HB.out⟩⟩
       ·
        replace c8 := Bool.eq_false_iff.mpr c8; subst c8; have H1 := ifn_ H
        clear H; have H := H1; clear H1; obtain rfl := Option.some.inj H
        try go_wp2
        replace HB := hd_ HB; have p256 : 0 ≤ (x5_1 : Int) := sq_dec; have q256 : x5_1 < (l0.length : Int) := sq_dec; obtain ⟨ad256, A256_7, c256_7, e256, hx256_0, hx256_1, hx256_2, hx256_3, hx256_4, hx256_5, hx256_6, hx256_7, hl256_7, hi256_7⟩ := at_T58 HR0.out x5_1 p256 q256; have hw256_7 := hx256_7; have hw256_6 := hx256_6; have hw256_5 := hx256_5; have hw256_4 := hx256_4; have hw256_3 := hx256_3; have hw256_2 := hx256_2; have hw256_1 := hx256_1; have hw256_0 := hx256_0; cases e256; replace hx256_0 := (HB.out.cell (World.block_lt_of_cell? w _ hx256_0)).trans hx256_0; replace hx256_1 := (HB.out.cell (World.block_lt_of_cell? w _ hx256_1)).trans hx256_1; replace hx256_2 := (HB.out.cell (World.block_lt_of_cell? w _ hx256_2)).trans hx256_2; replace hx256_3 := (HB.out.cell (World.block_lt_of_cell? w _ hx256_3)).trans hx256_3; replace hx256_4 := (HB.out.cell (World.block_lt_of_cell? w _ hx256_4)).trans hx256_4; replace hx256_5 := (HB.out.cell (World.block_lt_of_cell? w _ hx256_5)).trans hx256_5; replace hx256_6 := (HB.out.cell (World.block_lt_of_cell? w _ hx256_6)).trans hx256_6; replace hx256_7 := (HB.out.cell (World.block_lt_of_cell? w _ hx256_7)).trans hx256_7; have HR256_7 := Aside0.mk hi256_7; have HC256_7 := Aside0.mk hl256_7; clear hi256_7 hl256_7; replace p256 := eq_true p256; replace q256 := eq_true q256; have p257 : 0 ≤ (x5_1 : Int) := sq_dec; have q257 : x5_1 < (l1.length : Int) := sq_dec; obtain ⟨ad257, A257_7, c257_7, e257, hx257_0, hx257_1, hx257_2, hx257_3, hx257_4, hx257_5, hx257_6, hx257_7, hl257_7, hi257_7⟩ := at_T58 HR1.out x5_1 p257 q257; have hw257_7 := hx257_7; have hw257_6 := hx257_6; have hw257_5 := hx257_5; have hw257_4 := hx257_4; have hw257_3 := hx257_3; have hw257_2 := hx257_2; have hw257_1 := hx257_1; have hw257_0 := hx257_0; cases e257; replace hx257_0 := (HB.out.cell (World.block_lt_of_cell? w _ hx257_0)).trans hx257_0; replace hx257_1 := (HB.out.cell (World.block_lt_of_cell? w _ hx257_1)).trans hx257_1; replace hx257_2 := (HB.out.cell (World.block_lt_of_cell? w _ hx257_2)).trans hx257_2; replace hx257_3 := (HB.out.cell (World.block_lt_of_cell? w _ hx257_3)).trans hx257_3; replace hx257_4 := (HB.out.cell (World.block_lt_of_cell? w _ hx257_4)).trans hx257_4; replace hx257_5 := (HB.out.cell (World.block_lt_of_cell? w _ hx257_5)).trans hx257_5; replace hx257_6 := (HB.out.cell (World.block_lt_of_cell? w _ hx257_6)).trans hx257_6; replace hx257_7 := (HB.out.cell (World.block_lt_of_cell? w _ hx257_7)).trans hx257_7; have HR257_7 := Aside0.mk hi257_7; have HC257_7 := Aside0.mk hl257_7; clear hi257_7 hl257_7; replace p257 := eq_true p257; replace q257 := eq_true q257; refine start_ (n := 10) (S := fun w' => w'.cell? (ad256.add ((x5_1).toNat * 8)) = some (.int .i64 ((rd_T58 l0 x5_1).f0)) ∧ w'.cell? ⟨(ad256.add ((x5_1).toNat * 8)).block, (ad256.add ((x5_1).toNat * 8)).off + 1, none⟩ = some (.int .i64 ((rd_T58 l0 x5_1).f1)) ∧ w'.cell? ⟨(ad256.add ((x5_1).toNat * 8)).block, (ad256.add ((x5_1).toNat * 8)).off + 2, none⟩ = some (.int .i64 ((rd_T58 l0 x5_1).f2)) ∧ w'.cell? ⟨(ad256.add ((x5_1).toNat * 8)).block, (ad256.add ((x5_1).toNat * 8)).off + 3, none⟩ = some (.bool ((rd_T58 l0 x5_1).f3)) ∧ w'.cell? ⟨(ad256.add ((x5_1).toNat * 8)).block, (ad256.add ((x5_1).toNat * 8)).off + 4, none⟩ = some (.int .i64 ((rd_T58 l0 x5_1).f4.f0)) ∧ w'.cell? ⟨(ad256.add ((x5_1).toNat * 8)).block, (ad256.add ((x5_1).toNat * 8)).off + 5, none⟩ = some (.string ((rd_T58 l0 x5_1).f4.f1)) ∧ w'.cell? ⟨(ad256.add ((x5_1).toNat * 8)).block, (ad256.add ((x5_1).toNat * 8)).off + 6, none⟩ = some (.int .i64 ((rd_T58 l0 x5_1).f4.f2)) ∧ w'.cell? ⟨(ad256.add ((x5_1).toNat * 8)).block, (ad256.add ((x5_1).toNat * 8)).off + 7, none⟩ = some (.slice A256_7 ((rd_T58 l0 x5_1).f4.f3).length c256_7) ∧ w'.cell? (ad257.add ((x5_1).toNat * 8)) = some (.int .i64 ((rd_T58 l1 x5_1).f0)) ∧ w'.cell? ⟨(ad257.add ((x5_1).toNat * 8)).block, (ad257.add ((x5_1).toNat * 8)).off + 1, none⟩ = some (.int .i64 ((rd_T58 l1 x5_1).f1)) ∧ w'.cell? ⟨(ad257.add ((x5_1).toNat * 8)).block, (ad257.add ((x5_1).toNat * 8)).off + 2, none⟩ = some (.int .i64 ((rd_T58 l1 x5_1).f2)) ∧ w'.cell? ⟨(ad257.add ((x5_1).toNat * 8)).block, (ad257.add ((x5_1).toNat * 8)).off + 3, none⟩ = some (.bool ((rd_T58 l1 x5_1).f3)) ∧ w'.cell? ⟨(ad257.add ((x5_1).toNat * 8)).block, (ad257.add ((x5_1).toNat * 8)).off + 4, none⟩ = some (.int .i64 ((rd_T58 l1 x5_1).f4.f0)) ∧ w'.cell? ⟨(ad257.add ((x5_1).toNat * 8)).block, (ad257.add ((x5_1).toNat * 8)).off + 5, none⟩ = some (.string ((rd_T58 l1 x5_1).f4.f1)) ∧ w'.cell? ⟨(ad257.add ((x5_1).toNat * 8)).block, (ad257.add ((x5_1).toNat * 8)).off + 6, none⟩ = some (.int .i64 ((rd_T58 l1 x5_1).f4.f2)) ∧ w'.cell? ⟨(ad257.add ((x5_1).toNat * 8)).block, (ad257.add ((x5_1).toNat * 8)).off + 7, none⟩ = some (.slice A257_7 ((rd_T58 l1 x5_1).f4.f3).length c257_7)) (ds := []) laws_eqEdgeS.b0_ (by kernel_rfl) rfl rfl ⟨((HB.out.cell (World.block_lt_of_cell? w _ hw256_0)).trans hw256_0), ((HB.out.cell (World.block_lt_of_cell? w _ hw256_1)).trans hw256_1), ((HB.out.cell (World.block_lt_of_cell? w _ hw256_2)).trans hw256_2), ((HB.out.cell (World.block_lt_of_cell? w _ hw256_3)).trans hw256_3), ((HB.out.cell (World.block_lt_of_cell? w _ hw256_4)).trans hw256_4), ((HB.out.cell (World.block_lt_of_cell? w _ hw256_5)).trans hw256_5), ((HB.out.cell (World.block_lt_of_cell? w _ hw256_6)).trans hw256_6), ((HB.out.cell (World.block_lt_of_cell? w _ hw256_7)).trans hw256_7), ((HB.out.cell (World.block_lt_of_cell? w _ hw257_0)).trans hw257_0), ((HB.out.cell (World.block_lt_of_cell? w _ hw257_1)).trans hw257_1), ((HB.out.cell (World.block_lt_of_cell? w _ hw257_2)).trans hw257_2), ((HB.out.cell (World.block_lt_of_cell? w _ hw257_3)).trans hw257_3), ((HB.out.cell (World.block_lt_of_cell? w _ hw257_4)).trans hw257_4), ((HB.out.cell (World.block_lt_of_cell? w _ hw257_5)).trans hw257_5), ((HB.out.cell (World.block_lt_of_cell? w _ hw257_6)).trans hw257_6), ((HB.out.cell (World.block_lt_of_cell? w _ hw257_7)).trans hw257_7)⟩ (fun hHeld => ?_); refine with_tabW laws_eqEdgeS.tab6 laws_eqEdgeS.bits6 (fun HT_ HW_ => ?_); generalize wr.drew = w11 at HB HR256_7 HR257_7 hx256_0 hx256_1 hx256_2 hx256_3 hx256_4 hx256_5 hx256_6 hx256_7 hx257_0 hx257_1 hx257_2 hx257_3 hx257_4 hx257_5 hx257_6 hx257_7 hHeld ⊢; refine pure_y 0 (some 17) laws_eqEdgeS.b1_ (any_of HT_.out (by kernel_rfl)) (h := ?_)
        refine pure_y 1 (some 18) laws_eqEdgeS.b2_ (any_of HT_.out (by kernel_rfl)) (h := ?_)
        refine pure_y 2 (some 19) laws_eqEdgeS.b3_ (any_of HT_.out (by kernel_rfl)) (h := ?_)
        refine pure_y 4 (some 21) laws_eqEdgeS.b4_ (any_of HT_.out (by kernel_rfl)) (h := ?_)
        refine pure_y 5 (some 22) laws_eqEdgeS.b5_ (any_of HT_.out (by kernel_rfl)) (h := ?_)
        refine pure_y 6 (some 23) laws_eqEdgeS.b6_ (any_of HT_.out (by kernel_rfl)) (h := ?_)
        refine take_y 3 (some 20) laws_eqEdgeS.b7_ rfl (take_ofW HT_.out HW_.out (by kernel_rfl)) hHeld (Or.inl ⟨by rfl, (by rintro w' ⟨s0, s1, s2, s3, s4, s5, s6, s7, s8, s9, s10, s11, s12, s13, s14, s15⟩; go_simp; with_reducible rfl)⟩) (h := ?_)
        refine take_y 7 (some 24) laws_eqEdgeS.b8_ rfl (take_ofW HT_.out HW_.out (by kernel_rfl)) hHeld (Or.inl ⟨by rfl, (by rintro w' ⟨s0, s1, s2, s3, s4, s5, s6, s7, s8, s9, s10, s11, s12, s13, s14, s15⟩; go_simp; with_reducible rfl)⟩) (h := ?_)
        refine one_ (i := 8) (N := some 25) laws_eqEdgeS.b9_ rfl rfl (one_of HT_.out (by kernel_rfl)) (by decide) (fun K hK => ?_); refine gs_ Try.func33 #[.agg #[.int .i64 ((rd_T58 l0 x5_1).f0), .int .i64 ((rd_T58 l0 x5_1).f1), .int .i64 ((rd_T58 l0 x5_1).f2), .bool ((rd_T58 l0 x5_1).f3), .int .i64 ((rd_T58 l0 x5_1).f4.f0), .string ((rd_T58 l0 x5_1).f4.f1), .int .i64 ((rd_T58 l0 x5_1).f4.f2), .slice A256_7 ((rd_T58 l0 x5_1).f4.f3).length c256_7], .agg #[.int .i64 ((rd_T58 l1 x5_1).f0), .int .i64 ((rd_T58 l1 x5_1).f1), .int .i64 ((rd_T58 l1 x5_1).f2), .bool ((rd_T58 l1 x5_1).f3), .int .i64 ((rd_T58 l1 x5_1).f4.f0), .string ((rd_T58 l1 x5_1).f4.f1), .int .i64 ((rd_T58 l1 x5_1).f4.f2), .slice A257_7 ((rd_T58 l1 x5_1).f4.f3).length c257_7]] (h := ?_); with_reducible refine (laws_eqEdge.calls k1 ((rd_T58 l0 x5_1).f0) ((rd_T58 l0 x5_1).f1) ((rd_T58 l0 x5_1).f2) ((rd_T58 l0 x5_1).f3) ((rd_T58 l0 x5_1).f4.f0) ((rd_T58 l0 x5_1).f4.f1) ((rd_T58 l0 x5_1).f4.f2) _ _ ((rd_T58 l0 x5_1).f4.f3) ((rd_T58 l1 x5_1).f0) ((rd_T58 l1 x5_1).f1) ((rd_T58 l1 x5_1).f2) ((rd_T58 l1 x5_1).f3) ((rd_T58 l1 x5_1).f4.f0) ((rd_T58 l1 x5_1).f4.f1) ((rd_T58 l1 x5_1).f4.f2) _ _ ((rd_T58 l1 x5_1).f4.f3) false _ ?side1 ?side2 ?side3 ?side4 A7.out).mono ?_
        (case side1 => exact sq_c (Kd.C_below HR256_7.out HB.out))
        (case side2 => exact HC256_7.out)
        (case side3 => exact sq_c (Kd.C_below HR257_7.out HB.out))
        (case side4 => exact HC257_7.out)
        rintro e w12 ⟨rfl, hb⟩; refine ⟨_, rfl, ?_⟩; replace HB := hb_ HB hb
        (try clear hb)
        (try clear hb2)
        (try clear hk)
        (try clear hi)
        refine hK.out _ _ ⟨((HB.out.cell (World.block_lt_of_cell? w _ hw256_0)).trans hw256_0), ((HB.out.cell (World.block_lt_of_cell? w _ hw256_1)).trans hw256_1), ((HB.out.cell (World.block_lt_of_cell? w _ hw256_2)).trans hw256_2), ((HB.out.cell (World.block_lt_of_cell? w _ hw256_3)).trans hw256_3), ((HB.out.cell (World.block_lt_of_cell? w _ hw256_4)).trans hw256_4), ((HB.out.cell (World.block_lt_of_cell? w _ hw256_5)).trans hw256_5), ((HB.out.cell (World.block_lt_of_cell? w _ hw256_6)).trans hw256_6), ((HB.out.cell (World.block_lt_of_cell? w _ hw256_7)).trans hw256_7), ((HB.out.cell (World.block_lt_of_cell? w _ hw257_0)).trans hw257_0), ((HB.out.cell (World.block_lt_of_cell? w _ hw257_1)).trans hw257_1), ((HB.out.cell (World.block_lt_of_cell? w _ hw257_2)).trans hw257_2), ((HB.out.cell (World.block_lt_of_cell? w _ hw257_3)).trans hw257_3), ((HB.out.cell (World.block_lt_of_cell? w _ hw257_4)).trans hw257_4), ((HB.out.cell (World.block_lt_of_cell? w _ hw257_5)).trans hw257_5), ((HB.out.cell (World.block_lt_of_cell? w _ hw257_6)).trans hw257_6), ((HB.out.cell (World.block_lt_of_cell? w _ hw257_7)).trans hw257_7)⟩ (fun hHeld => ?_); clear hK K; refine norm_y 25 (h := ?_)
        refine pure_y 9 (some 26) laws_eqEdgeS.b10_ (any_of HT_.out (by kernel_rfl)) (h := ?_)
        refine done_ (done_of HT_.out (by kernel_rfl)) ?_
        try go_wp2
        go_ret
        exact ⟨by first | rfl | (simp [errW_none, errW_some] <;> rfl) | (simp [*, errW_none, errW_some] <;> rfl), sq_below HB.out⟩
      ·
       rw [if_neg c6] at H; exact absurd H (by simp)
     ·
      rw [if_neg c5] at H; exact absurd H (by simp)
    ·
     rw [if_neg c4] at H; have c4b0 : decide (x5_1 < (l0.length : Int)) = false := decide_eq_false c4; clear c4; obtain rfl := Option.some.inj H
     go_wp2
     go_ret
     exact ⟨by first | rfl | (simp [errW_none, errW_some] <;> rfl) | (simp [*, errW_none, errW_some] <;> rfl), sq_below HB.out⟩
 ·
  rw [if_neg c3] at H; have c3b0 : ((l0.length : Int) == (l1.length : Int)) = false := beq_eq_false_iff_ne.mpr c3; have c3b1 : ((l0.length : Int) != (l1.length : Int)) = true := bne_iff_ne.mpr c3; have c3b2 : (l0.length == l1.length) = false := by first | simpa using c3 | (simp at c3 ⊢; omega)
  obtain rfl := Option.some.inj H
  go_enter Try.func21, Try.ntmps21
  go_wp2
  go_ret
  exact ⟨by first | rfl | (simp [errW_none, errW_some] <;> rfl) | (simp [*, errW_none, errW_some] <;> rfl), sq_below HB.out⟩

end Go.Proofs.Ytmdebfbkehnocaa.Q
