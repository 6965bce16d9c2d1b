/- Functions of the translation as Lean functions, each with a proof that a call answers so; out of the seat, by this claim's own program prt.py. -/
import Derived.Test.YtmdebfbkehnocaaWTab
import Derived.Test.YtmdebfbkehnocaaWRepsOne
import Derived.Test.YtmdebfbkehnocaaQx0
import Derived.Test.YtmdebfbkehnocaaQStep
namespace Go.Proofs.Ytmdebfbkehnocaa.Q
open Go.RowKit Go.Proofs.YtmdebfbkehnocaaW.PrintWords Go.Proofs.YtmdebfbkehnocaaW.PrintLast Go.Proofs.YtmdebfbkehnocaaW.PrintMore
attribute [local go_sem] max2_int min2_int max_two min_two max_three min_three max_four min_four   -- for this text's walks alone
set_option linter.unusedVariables false
set_option linter.unusedSimpArgs false

/-! ### laws_eqNodeS: function 45 -/
/-! ### laws_eqNode: function 40 -/
abbrev laws_eqNode.b0_ : Array Bool := #[false, false, false, false, false, false, false, false, false, false]
abbrev laws_eqNode.b1_ : Array Bool := #[true, false, false, false, false, false, false, false, false, false]
abbrev laws_eqNode.b2_ : Array Bool := #[true, true, false, false, false, false, false, false, false, false]
abbrev laws_eqNode.b3_ : Array Bool := #[true, true, true, false, false, false, false, false, false, false]
abbrev laws_eqNode.b4_ : Array Bool := #[true, true, true, false, true, false, false, false, false, false]
abbrev laws_eqNode.b5_ : Array Bool := #[true, true, true, false, true, true, false, false, false, false]
abbrev laws_eqNode.b6_ : Array Bool := #[true, true, true, false, true, true, true, false, false, false]
abbrev laws_eqNode.b7_ : Array Bool := #[true, true, true, true, true, true, true, false, false, false]
abbrev laws_eqNode.b8_ : Array Bool := #[true, true, true, true, true, true, true, true, false, false]
abbrev laws_eqNode.b9_ : Array Bool := #[true, true, true, true, true, true, true, true, true, false]
abbrev laws_eqNode.b10_ : Array Bool := #[true, true, true, true, true, true, true, true, true, true]
mutual
def laws_eqNodeS.l0 : Nat → List (S56) → List (S56) → Int → Option (Bool)
 | 0, _, _, _ => none
 | k + 1, x0, x1, x5 => if x5 < (x0.length : Int) then (if 0 ≤ x5 then (if x5 < (x1.length : Int) then ((laws_eqNode.f k ((rd_T56 x0 x5).f0) ((rd_T56 x0 x5).f1) ((rd_T56 x0 x5).f2) ((rd_T56 x0 x5).f3) ((rd_T56 x1 x5).f0) ((rd_T56 x1 x5).f1) ((rd_T56 x1 x5).f2) ((rd_T56 x1 x5).f3)).bind fun t252 => (if t252 = true then (laws_eqNodeS.l0 k x0 x1 (wrap64 (x5 + 1))) else (some false))) else (none)) else (none)) else (some true)
def laws_eqNodeS.f : Nat → List (S56) → List (S56) → Option (Bool)
 | 0, _, _ => none
 | k + 1, l0, l1 => if (l0.length : Int) = (l1.length : Int) then (laws_eqNodeS.l0 k l0 l1 0) else (some false)
def laws_eqNode.f : Nat → Int → ByteArray → Int → List (S56) → Int → ByteArray → Int → List (S56) → Option (Bool)
 | 0, _, _, _, _, _, _, _, _ => none
 | k + 1, a0_0, a0_1, a0_2, l0_3, a1_0, a1_1, a1_2, l1_3 => if a0_0 = a1_0 then (if a0_1.toList = a1_1.toList then (if a0_2 = a1_2 then ((laws_eqNodeS.f k l0_3 l1_3).bind fun t249 => (if t249 = true then (some true) else (some false))) else (some false)) else (some false)) else (some false)
end
theorem laws_eqNodeS.mono_l : ∀ k, (∀ y0 y1, LeO (laws_eqNodeS.f k y0 y1) (laws_eqNodeS.f (k + 1) y0 y1)) ∧ (∀ y0 y1 y2, LeO (laws_eqNodeS.l0 k y0 y1 y2) (laws_eqNodeS.l0 (k + 1) y0 y1 y2)) ∧ (∀ y0 y1 y2 y3 y4 y5 y6 y7, LeO (laws_eqNode.f k y0 y1 y2 y3 y4 y5 y6 y7) (laws_eqNode.f (k + 1) y0 y1 y2 y3 y4 y5 y6 y7))
 | 0 => ⟨fun _ _ r h => by simp [laws_eqNodeS.f] at h, fun _ _ _ r h => by simp [laws_eqNodeS.l0] at h, fun _ _ _ _ _ _ _ _ r h => by simp [laws_eqNode.f] at h⟩
 | k + 1 => by
  obtain ⟨ih0, ih1, ih2⟩ := laws_eqNodeS.mono_l k; refine ⟨?_, ?_, ?_⟩
  ·
   intro y0 y1; unfold laws_eqNodeS.f
   repeat' first
   | (with_reducible exact ih0 _ _)
   | (with_reducible exact ih1 _ _ _)
   | (with_reducible exact ih2 _ _ _ _ _ _ _ _)
   | (with_reducible exact LeO.refl _)
   | (with_reducible exact LeO.none _)
   | (with_reducible refine LeO.ite ?_ ?_)
   | (with_reducible refine LeO.bind ?_ (fun _ => ?_))
   | exact ih0 _ _
   | exact ih1 _ _ _
   | exact ih2 _ _ _ _ _ _ _ _
   | exact LeO.none _
   | refine LeO.ite ?_ ?_
   | refine LeO.bind ?_ (fun _ => ?_)
  ·
   intro y0 y1 y2; unfold laws_eqNodeS.l0
   repeat' first
   | (with_reducible exact ih0 _ _)
   | (with_reducible exact ih1 _ _ _)
   | (with_reducible exact ih2 _ _ _ _ _ _ _ _)
   | (with_reducible exact LeO.refl _)
   | (with_reducible exact LeO.none _)
   | (with_reducible refine LeO.ite ?_ ?_)
   | (with_reducible refine LeO.bind ?_ (fun _ => ?_))
   | exact ih0 _ _
   | exact ih1 _ _ _
   | exact ih2 _ _ _ _ _ _ _ _
   | exact LeO.none _
   | refine LeO.ite ?_ ?_
   | refine LeO.bind ?_ (fun _ => ?_)
  ·
   intro y0 y1 y2 y3 y4 y5 y6 y7; unfold laws_eqNode.f
   repeat' first
   | (with_reducible exact ih0 _ _)
   | (with_reducible exact ih1 _ _ _)
   | (with_reducible exact ih2 _ _ _ _ _ _ _ _)
   | (with_reducible exact LeO.refl _)
   | (with_reducible exact LeO.none _)
   | (with_reducible refine LeO.ite ?_ ?_)
   | (with_reducible refine LeO.bind ?_ (fun _ => ?_))
   | exact ih0 _ _
   | exact ih1 _ _ _
   | exact ih2 _ _ _ _ _ _ _ _
   | exact LeO.none _
   | refine LeO.ite ?_ ?_
   | refine LeO.bind ?_ (fun _ => ?_)
theorem laws_eqNodeS.mono : ∀ a0 a1 k, LeO (laws_eqNodeS.f k a0 a1) (laws_eqNodeS.f (k + 1) a0 a1) := by
 intro a0 a1 k; obtain ⟨ih0, ih1, ih2⟩ := laws_eqNodeS.mono_l k; exact ih0 a0 a1
theorem laws_eqNode.mono : ∀ a0 a1 a2 a3 a4 a5 a6 a7 k, LeO (laws_eqNode.f k a0 a1 a2 a3 a4 a5 a6 a7) (laws_eqNode.f (k + 1) a0 a1 a2 a3 a4 a5 a6 a7) := by
 intro a0 a1 a2 a3 a4 a5 a6 a7 k; obtain ⟨ih0, ih1, ih2⟩ := laws_eqNodeS.mono_l k; exact ih2 a0 a1 a2 a3 a4 a5 a6 a7
def laws_eqNodeS.T6 : Bool × List (List Nat × List Nat) := (true, [([], []), ([], []), ([0, 1], [0, 1]), ([2], [2]), ([], []), ([], []), ([4, 5], [4, 5]), ([6], [6]), ([3, 7], [3, 7]), ([8], [8])])
def laws_eqNodeS.B6 : List Nat := [0, 0, 3, 7, 0, 0, 48, 112, 255, 511]
theorem laws_eqNodeS.tab6 : rtab .any (opsOf Try.f45 6) = laws_eqNodeS.T6 := by kernel_rfl
theorem laws_eqNodeS.bits6 : waitsOk laws_eqNodeS.T6.2 laws_eqNodeS.B6 = true := by kernel_rfl
set_option maxHeartbeats 8000000 in
set_option maxRecDepth 100000 in
theorem laws_eqNodeS.calls_ (k : Nat) (ihB : ∀ m_, m_ < k → ∀ (a0_0 : Int) (a0_1 : ByteArray) (a0_2 : Int) (A0_3 : Option Addr) (c0_3 : Nat) (l0_3 : List (S56)) (a1_0 : Int) (a1_1 : ByteArray) (a1_2 : Int) (A1_3 : Option Addr) (c1_3 : Nat) (l1_3 : List (S56)) (r : Bool) (w : World) (hr0_3 : Kd.C k56 w A0_3 l0_3.length l0_3) (hc0_3 : l0_3.length ≤ c0_3) (hr1_3 : Kd.C k56 w A1_3 l1_3.length l1_3) (hc1_3 : l1_3.length ≤ c1_3) (h : laws_eqNode.f m_ a0_0 a0_1 a0_2 l0_3 a1_0 a1_1 a1_2 l1_3 = some r),
  Calls Try.prog 40 #[.agg #[.int .i64 a0_0, .string a0_1, .int .i64 a0_2, .slice A0_3 l0_3.length c0_3], .agg #[.int .i64 a1_0, .string a1_1, .int .i64 a1_2, .slice A1_3 l1_3.length c1_3]] w fun e w' => e = .returned (.bool r) ∧ Below w.heap.size w w') : ∀ (A0 : Option Addr) (c0 : Nat) (l0 : List (S56)) (A1 : Option Addr) (c1 : Nat) (l1 : List (S56)) (r : Bool) (w : World) (hr0 : Kd.C k56 w A0 l0.length l0) (hc0 : l0.length ≤ c0) (hr1 : Kd.C k56 w A1 l1.length l1) (hc1 : l1.length ≤ c1) (h : laws_eqNodeS.f k l0 l1 = some r),
  Calls Try.prog 45 #[.slice A0 l0.length c0, .slice A1 l1.length c1] w fun e w' => e = .returned (.bool r) ∧ Below w.heap.size w w' := by
 intro A0 c0 l0 A1 c1 l1 r w hr0 hc0 hr1 hc1 h; cases k with
 | zero => exact absurd h (by simp [laws_eqNodeS.f])
 | succ k =>
 simp only [laws_eqNodeS.f] at h; have hu56 := Try.underlying56; have HR0 := Aside0.mk hr0; have HC0 := Aside0.mk hc0; clear hr0 hc0; have HR1 := Aside0.mk hr1; have HC1 := Aside0.mk hc1; clear hr1 hc1; have HB := Aside0.mk (Below.refl w.heap.size w); have H : (if (l0.length : Int) = (l1.length : Int) then (laws_eqNodeS.l0 k l0 l1 0) else (some false)) = some r := h; clear h
 by_cases c3 : (l0.length : Int) = (l1.length : Int)
 ·
  rw [if_pos c3] at H; have c3b0 : ((l0.length : Int) == (l1.length : Int)) = true := beq_iff_eq.mpr c3; have c3b1 : ((l0.length : Int) != (l1.length : Int)) = false := bne_eq_false_iff_eq.mpr c3; have c3b2 : (l0.length == l1.length) = true := by first | simpa using c3 | (simp at c3 ⊢; omega)
  clear c3; have H' := Aside0.mk H; clear H
  go_enter Try.func45, Try.ntmps45
  go_wp2
  go_loopg [5] k (fun kq v5 w' => ∃ (x5_1 : Int), v5 = .int .i64 x5_1 ∧ Aside0 (laws_eqNodeS.l0 kq l0 l1 x5_1 = some r) ∧ Aside0 (kq ≤ k) ∧ Aside0 (Below w.heap.size w w'))
  case atStart => exact ⟨(0), (by first | rfl | (simp; done) | (simp [*]; done)), H', ⟨Nat.le_refl _⟩, ⟨sq_below HB.out⟩⟩
  case round =>
   clear H'
   try clear c1
   try clear p2
   try clear c3
   try clear c3b0
   try clear c3b1
   try clear c3b2
   obtain ⟨x5_1, rfl, HA, HK1, HB⟩ := hrel; cases gk with
   | zero => exact absurd HA.out (by simp [laws_eqNodeS.l0])
   | succ k1 =>
    have H := HA.out; clear HA; simp only [laws_eqNodeS.l0] at H
    by_cases c4 : x5_1 < (l0.length : Int)
    ·
     rw [if_pos c4] at H; have c4b0 : decide (x5_1 < (l0.length : Int)) = true := decide_eq_true c4; clear c4
     by_cases c5 : 0 ≤ x5_1
     ·
      rw [if_pos c5] at H; have c5b0 : decide (0 ≤ x5_1) = true := decide_eq_true c5; clear c5
      by_cases c6 : x5_1 < (l1.length : Int)
      ·
       rw [if_pos c6] at H; have c6b0 : decide (x5_1 < (l1.length : Int)) = true := decide_eq_true c6; clear c6; replace H := Option.bind_eq_some_iff.mp H; obtain ⟨t252, A70, H⟩ := H; (try dsimp only at H); have A7 := Aside0.mk A70; clear A70
       by_cases c8 : t252 = true
       ·
        subst c8; have H1 := ifp_ H
        clear H; have H := H1; clear H1; have H' := Aside0.mk H; clear H
        try go_wp2
        replace HB := hd_ HB; have p250 : 0 ≤ (x5_1 : Int) := sq_dec; have q250 : x5_1 < (l0.length : Int) := sq_dec; obtain ⟨ad250, A250_3, c250_3, e250, hx250_0, hx250_1, hx250_2, hx250_3, hl250_3, hi250_3⟩ := at_T56 HR0.out x5_1 p250 q250; have hw250_3 := hx250_3; have hw250_2 := hx250_2; have hw250_1 := hx250_1; have hw250_0 := hx250_0; cases e250; replace hx250_0 := (HB.out.cell (World.block_lt_of_cell? w _ hx250_0)).trans hx250_0; replace hx250_1 := (HB.out.cell (World.block_lt_of_cell? w _ hx250_1)).trans hx250_1; replace hx250_2 := (HB.out.cell (World.block_lt_of_cell? w _ hx250_2)).trans hx250_2; replace hx250_3 := (HB.out.cell (World.block_lt_of_cell? w _ hx250_3)).trans hx250_3; have HR250_3 := Aside0.mk hi250_3; have HC250_3 := Aside0.mk hl250_3; clear hi250_3 hl250_3; replace p250 := eq_true p250; replace q250 := eq_true q250; have p251 : 0 ≤ (x5_1 : Int) := sq_dec; have q251 : x5_1 < (l1.length : Int) := sq_dec; obtain ⟨ad251, A251_3, c251_3, e251, hx251_0, hx251_1, hx251_2, hx251_3, hl251_3, hi251_3⟩ := at_T56 HR1.out x5_1 p251 q251; have hw251_3 := hx251_3; have hw251_2 := hx251_2; have hw251_1 := hx251_1; have hw251_0 := hx251_0; cases e251; replace hx251_0 := (HB.out.cell (World.block_lt_of_cell? w _ hx251_0)).trans hx251_0; replace hx251_1 := (HB.out.cell (World.block_lt_of_cell? w _ hx251_1)).trans hx251_1; replace hx251_2 := (HB.out.cell (World.block_lt_of_cell? w _ hx251_2)).trans hx251_2; replace hx251_3 := (HB.out.cell (World.block_lt_of_cell? w _ hx251_3)).trans hx251_3; have HR251_3 := Aside0.mk hi251_3; have HC251_3 := Aside0.mk hl251_3; clear hi251_3 hl251_3; replace p251 := eq_true p251; replace q251 := eq_true q251; refine start_ (n := 10) (S := fun w' => w'.cell? (ad250.add ((x5_1).toNat * 4)) = some (.int .i64 ((rd_T56 l0 x5_1).f0)) ∧ w'.cell? ⟨(ad250.add ((x5_1).toNat * 4)).block, (ad250.add ((x5_1).toNat * 4)).off + 1, none⟩ = some (.string ((rd_T56 l0 x5_1).f1)) ∧ w'.cell? ⟨(ad250.add ((x5_1).toNat * 4)).block, (ad250.add ((x5_1).toNat * 4)).off + 2, none⟩ = some (.int .i64 ((rd_T56 l0 x5_1).f2)) ∧ w'.cell? ⟨(ad250.add ((x5_1).toNat * 4)).block, (ad250.add ((x5_1).toNat * 4)).off + 3, none⟩ = some (.slice A250_3 ((rd_T56 l0 x5_1).f3).length c250_3) ∧ w'.cell? (ad251.add ((x5_1).toNat * 4)) = some (.int .i64 ((rd_T56 l1 x5_1).f0)) ∧ w'.cell? ⟨(ad251.add ((x5_1).toNat * 4)).block, (ad251.add ((x5_1).toNat * 4)).off + 1, none⟩ = some (.string ((rd_T56 l1 x5_1).f1)) ∧ w'.cell? ⟨(ad251.add ((x5_1).toNat * 4)).block, (ad251.add ((x5_1).toNat * 4)).off + 2, none⟩ = some (.int .i64 ((rd_T56 l1 x5_1).f2)) ∧ w'.cell? ⟨(ad251.add ((x5_1).toNat * 4)).block, (ad251.add ((x5_1).toNat * 4)).off + 3, none⟩ = some (.slice A251_3 ((rd_T56 l1 x5_1).f3).length c251_3)) (ds := []) laws_eqNode.b0_ (by kernel_rfl) rfl rfl ⟨((HB.out.cell (World.block_lt_of_cell? w _ hw250_0)).trans hw250_0), ((HB.out.cell (World.block_lt_of_cell? w _ hw250_1)).trans hw250_1), ((HB.out.cell (World.block_lt_of_cell? w _ hw250_2)).trans hw250_2), ((HB.out.cell (World.block_lt_of_cell? w _ hw250_3)).trans hw250_3), ((HB.out.cell (World.block_lt_of_cell? w _ hw251_0)).trans hw251_0), ((HB.out.cell (World.block_lt_of_cell? w _ hw251_1)).trans hw251_1), ((HB.out.cell (World.block_lt_of_cell? w _ hw251_2)).trans hw251_2), ((HB.out.cell (World.block_lt_of_cell? w _ hw251_3)).trans hw251_3)⟩ (fun hHeld => ?_); refine with_tabW laws_eqNodeS.tab6 laws_eqNodeS.bits6 (fun HT_ HW_ => ?_); generalize wr.drew = w9 at HB HR250_3 HR251_3 hx250_0 hx250_1 hx250_2 hx250_3 hx251_0 hx251_1 hx251_2 hx251_3 hHeld ⊢; refine pure_y 0 (some 17) laws_eqNode.b1_ (any_of HT_.out (by kernel_rfl)) (h := ?_)
        refine pure_y 1 (some 18) laws_eqNode.b2_ (any_of HT_.out (by kernel_rfl)) (h := ?_)
        refine pure_y 2 (some 19) laws_eqNode.b3_ (any_of HT_.out (by kernel_rfl)) (h := ?_)
        refine pure_y 4 (some 21) laws_eqNode.b4_ (any_of HT_.out (by kernel_rfl)) (h := ?_)
        refine pure_y 5 (some 22) laws_eqNode.b5_ (any_of HT_.out (by kernel_rfl)) (h := ?_)
        refine pure_y 6 (some 23) laws_eqNode.b6_ (any_of HT_.out (by kernel_rfl)) (h := ?_)
        refine take_y 3 (some 20) laws_eqNode.b7_ rfl (take_ofW HT_.out HW_.out (by kernel_rfl)) hHeld (Or.inl ⟨by rfl, (by rintro w' ⟨s0, s1, s2, s3, s4, s5, s6, s7⟩; go_simp; with_reducible rfl)⟩) (h := ?_)
        refine take_y 7 (some 24) laws_eqNode.b8_ rfl (take_ofW HT_.out HW_.out (by kernel_rfl)) hHeld (Or.inl ⟨by rfl, (by rintro w' ⟨s0, s1, s2, s3, s4, s5, s6, s7⟩; go_simp; with_reducible rfl)⟩) (h := ?_)
        refine one_ (i := 8) (N := some 25) laws_eqNode.b9_ rfl rfl (one_of HT_.out (by kernel_rfl)) (by decide) (fun K hK => ?_); refine gs_ Try.func40 #[.agg #[.int .i64 ((rd_T56 l0 x5_1).f0), .string ((rd_T56 l0 x5_1).f1), .int .i64 ((rd_T56 l0 x5_1).f2), .slice A250_3 ((rd_T56 l0 x5_1).f3).length c250_3], .agg #[.int .i64 ((rd_T56 l1 x5_1).f0), .string ((rd_T56 l1 x5_1).f1), .int .i64 ((rd_T56 l1 x5_1).f2), .slice A251_3 ((rd_T56 l1 x5_1).f3).length c251_3]] (h := ?_); with_reducible refine (ihB k1 (by have := HK1.out; omega) ((rd_T56 l0 x5_1).f0) ((rd_T56 l0 x5_1).f1) ((rd_T56 l0 x5_1).f2) _ _ ((rd_T56 l0 x5_1).f3) ((rd_T56 l1 x5_1).f0) ((rd_T56 l1 x5_1).f1) ((rd_T56 l1 x5_1).f2) _ _ ((rd_T56 l1 x5_1).f3) true _ ?side1 ?side2 ?side3 ?side4 A7.out).mono ?_
        (case side1 => exact sq_c (Kd.C_below HR250_3.out HB.out))
        (case side2 => exact HC250_3.out)
        (case side3 => exact sq_c (Kd.C_below HR251_3.out HB.out))
        (case side4 => exact HC251_3.out)
        rintro e w10 ⟨rfl, hb⟩; refine ⟨_, rfl, ?_⟩; replace HB := hb_ HB hb
        (try clear hb)
        (try clear hb2)
        (try clear hk)
        (try clear hi)
        refine hK.out _ _ ⟨((HB.out.cell (World.block_lt_of_cell? w _ hw250_0)).trans hw250_0), ((HB.out.cell (World.block_lt_of_cell? w _ hw250_1)).trans hw250_1), ((HB.out.cell (World.block_lt_of_cell? w _ hw250_2)).trans hw250_2), ((HB.out.cell (World.block_lt_of_cell? w _ hw250_3)).trans hw250_3), ((HB.out.cell (World.block_lt_of_cell? w _ hw251_0)).trans hw251_0), ((HB.out.cell (World.block_lt_of_cell? w _ hw251_1)).trans hw251_1), ((HB.out.cell (World.block_lt_of_cell? w _ hw251_2)).trans hw251_2), ((HB.out.cell (World.block_lt_of_cell? w _ hw251_3)).trans hw251_3)⟩ (fun hHeld => ?_); clear hK K; refine norm_y 25 (h := ?_)
        refine pure_y 9 (some 26) laws_eqNode.b10_ (any_of HT_.out (by kernel_rfl)) (h := ?_)
        refine done_ (done_of HT_.out (by kernel_rfl)) ?_
        try go_wp2
        go_roundg k1
        case measure => have := HK1.out; omega
        case rel => exact ⟨(wrap64 (x5_1 + 1)), (by first | rfl | (simp; done) | (simp [*]; done)), H', ⟨by have := HK1.out; omega⟩, ⟨sq_below HB.out⟩⟩
       ·
        replace c8 := Bool.eq_false_iff.mpr c8; subst c8; have H1 := ifn_ H
        clear H; have H := H1; clear H1; obtain rfl := Option.some.inj H
        try go_wp2
        replace HB := hd_ HB; have p250 : 0 ≤ (x5_1 : Int) := sq_dec; have q250 : x5_1 < (l0.length : Int) := sq_dec; obtain ⟨ad250, A250_3, c250_3, e250, hx250_0, hx250_1, hx250_2, hx250_3, hl250_3, hi250_3⟩ := at_T56 HR0.out x5_1 p250 q250; have hw250_3 := hx250_3; have hw250_2 := hx250_2; have hw250_1 := hx250_1; have hw250_0 := hx250_0; cases e250; replace hx250_0 := (HB.out.cell (World.block_lt_of_cell? w _ hx250_0)).trans hx250_0; replace hx250_1 := (HB.out.cell (World.block_lt_of_cell? w _ hx250_1)).trans hx250_1; replace hx250_2 := (HB.out.cell (World.block_lt_of_cell? w _ hx250_2)).trans hx250_2; replace hx250_3 := (HB.out.cell (World.block_lt_of_cell? w _ hx250_3)).trans hx250_3; have HR250_3 := Aside0.mk hi250_3; have HC250_3 := Aside0.mk hl250_3; clear hi250_3 hl250_3; replace p250 := eq_true p250; replace q250 := eq_true q250; have p251 : 0 ≤ (x5_1 : Int) := sq_dec; have q251 : x5_1 < (l1.length : Int) := sq_dec; obtain ⟨ad251, A251_3, c251_3, e251, hx251_0, hx251_1, hx251_2, hx251_3, hl251_3, hi251_3⟩ := at_T56 HR1.out x5_1 p251 q251; have hw251_3 := hx251_3; have hw251_2 := hx251_2; have hw251_1 := hx251_1; have hw251_0 := hx251_0; cases e251; replace hx251_0 := (HB.out.cell (World.block_lt_of_cell? w _ hx251_0)).trans hx251_0; replace hx251_1 := (HB.out.cell (World.block_lt_of_cell? w _ hx251_1)).trans hx251_1; replace hx251_2 := (HB.out.cell (World.block_lt_of_cell? w _ hx251_2)).trans hx251_2; replace hx251_3 := (HB.out.cell (World.block_lt_of_cell? w _ hx251_3)).trans hx251_3; have HR251_3 := Aside0.mk hi251_3; have HC251_3 := Aside0.mk hl251_3; clear hi251_3 hl251_3; replace p251 := eq_true p251; replace q251 := eq_true q251; refine start_ (n := 10) (S := fun w' => w'.cell? (ad250.add ((x5_1).toNat * 4)) = some (.int .i64 ((rd_T56 l0 x5_1).f0)) ∧ w'.cell? ⟨(ad250.add ((x5_1).toNat * 4)).block, (ad250.add ((x5_1).toNat * 4)).off + 1, none⟩ = some (.string ((rd_T56 l0 x5_1).f1)) ∧ w'.cell? ⟨(ad250.add ((x5_1).toNat * 4)).block, (ad250.add ((x5_1).toNat * 4)).off + 2, none⟩ = some (.int .i64 ((rd_T56 l0 x5_1).f2)) ∧ w'.cell? ⟨(ad250.add ((x5_1).toNat * 4)).block, (ad250.add ((x5_1).toNat * 4)).off + 3, none⟩ = some (.slice A250_3 ((rd_T56 l0 x5_1).f3).length c250_3) ∧ w'.cell? (ad251.add ((x5_1).toNat * 4)) = some (.int .i64 ((rd_T56 l1 x5_1).f0)) ∧ w'.cell? ⟨(ad251.add ((x5_1).toNat * 4)).block, (ad251.add ((x5_1).toNat * 4)).off + 1, none⟩ = some (.string ((rd_T56 l1 x5_1).f1)) ∧ w'.cell? ⟨(ad251.add ((x5_1).toNat * 4)).block, (ad251.add ((x5_1).toNat * 4)).off + 2, none⟩ = some (.int .i64 ((rd_T56 l1 x5_1).f2)) ∧ w'.cell? ⟨(ad251.add ((x5_1).toNat * 4)).block, (ad251.add ((x5_1).toNat * 4)).off + 3, none⟩ = some (.slice A251_3 ((rd_T56 l1 x5_1).f3).length c251_3)) (ds := []) laws_eqNode.b0_ (by kernel_rfl) rfl rfl ⟨((HB.out.cell (World.block_lt_of_cell? w _ hw250_0)).trans hw250_0), ((HB.out.cell (World.block_lt_of_cell? w _ hw250_1)).trans hw250_1), ((HB.out.cell (World.block_lt_of_cell? w _ hw250_2)).trans hw250_2), ((HB.out.cell (World.block_lt_of_cell? w _ hw250_3)).trans hw250_3), ((HB.out.cell (World.block_lt_of_cell? w _ hw251_0)).trans hw251_0), ((HB.out.cell (World.block_lt_of_cell? w _ hw251_1)).trans hw251_1), ((HB.out.cell (World.block_lt_of_cell? w _ hw251_2)).trans hw251_2), ((HB.out.cell (World.block_lt_of_cell? w _ hw251_3)).trans hw251_3)⟩ (fun hHeld => ?_); refine with_tabW laws_eqNodeS.tab6 laws_eqNodeS.bits6 (fun HT_ HW_ => ?_); generalize wr.drew = w11 at HB HR250_3 HR251_3 hx250_0 hx250_1 hx250_2 hx250_3 hx251_0 hx251_1 hx251_2 hx251_3 hHeld ⊢; refine pure_y 0 (some 17) laws_eqNode.b1_ (any_of HT_.out (by kernel_rfl)) (h := ?_)
        refine pure_y 1 (some 18) laws_eqNode.b2_ (any_of HT_.out (by kernel_rfl)) (h := ?_)
        refine pure_y 2 (some 19) laws_eqNode.b3_ (any_of HT_.out (by kernel_rfl)) (h := ?_)
        refine pure_y 4 (some 21) laws_eqNode.b4_ (any_of HT_.out (by kernel_rfl)) (h := ?_)
        refine pure_y 5 (some 22) laws_eqNode.b5_ (any_of HT_.out (by kernel_rfl)) (h := ?_)
        refine pure_y 6 (some 23) laws_eqNode.b6_ (any_of HT_.out (by kernel_rfl)) (h := ?_)
        refine take_y 3 (some 20) laws_eqNode.b7_ rfl (take_ofW HT_.out HW_.out (by kernel_rfl)) hHeld (Or.inl ⟨by rfl, (by rintro w' ⟨s0, s1, s2, s3, s4, s5, s6, s7⟩; go_simp; with_reducible rfl)⟩) (h := ?_)
        refine take_y 7 (some 24) laws_eqNode.b8_ rfl (take_ofW HT_.out HW_.out (by kernel_rfl)) hHeld (Or.inl ⟨by rfl, (by rintro w' ⟨s0, s1, s2, s3, s4, s5, s6, s7⟩; go_simp; with_reducible rfl)⟩) (h := ?_)
        refine one_ (i := 8) (N := some 25) laws_eqNode.b9_ rfl rfl (one_of HT_.out (by kernel_rfl)) (by decide) (fun K hK => ?_); refine gs_ Try.func40 #[.agg #[.int .i64 ((rd_T56 l0 x5_1).f0), .string ((rd_T56 l0 x5_1).f1), .int .i64 ((rd_T56 l0 x5_1).f2), .slice A250_3 ((rd_T56 l0 x5_1).f3).length c250_3], .agg #[.int .i64 ((rd_T56 l1 x5_1).f0), .string ((rd_T56 l1 x5_1).f1), .int .i64 ((rd_T56 l1 x5_1).f2), .slice A251_3 ((rd_T56 l1 x5_1).f3).length c251_3]] (h := ?_); with_reducible refine (ihB k1 (by have := HK1.out; omega) ((rd_T56 l0 x5_1).f0) ((rd_T56 l0 x5_1).f1) ((rd_T56 l0 x5_1).f2) _ _ ((rd_T56 l0 x5_1).f3) ((rd_T56 l1 x5_1).f0) ((rd_T56 l1 x5_1).f1) ((rd_T56 l1 x5_1).f2) _ _ ((rd_T56 l1 x5_1).f3) false _ ?side1 ?side2 ?side3 ?side4 A7.out).mono ?_
        (case side1 => exact sq_c (Kd.C_below HR250_3.out HB.out))
        (case side2 => exact HC250_3.out)
        (case side3 => exact sq_c (Kd.C_below HR251_3.out HB.out))
        (case side4 => exact HC251_3.out)
        rintro e w12 ⟨rfl, hb⟩; refine ⟨_, rfl, ?_⟩; replace HB := hb_ HB hb
        (try clear hb)
        (try clear hb2)
        (try clear hk)
        (try clear hi)
        refine hK.out _ _ ⟨((HB.out.cell (World.block_lt_of_cell? w _ hw250_0)).trans hw250_0), ((HB.out.cell (World.block_lt_of_cell? w _ hw250_1)).trans hw250_1), ((HB.out.cell (World.block_lt_of_cell? w _ hw250_2)).trans hw250_2), ((HB.out.cell (World.block_lt_of_cell? w _ hw250_3)).trans hw250_3), ((HB.out.cell (World.block_lt_of_cell? w _ hw251_0)).trans hw251_0), ((HB.out.cell (World.block_lt_of_cell? w _ hw251_1)).trans hw251_1), ((HB.out.cell (World.block_lt_of_cell? w _ hw251_2)).trans hw251_2), ((HB.out.cell (World.block_lt_of_cell? w _ hw251_3)).trans hw251_3)⟩ (fun hHeld => ?_); clear hK K; refine norm_y 25 (h := ?_)
        refine pure_y 9 (some 26) laws_eqNode.b10_ (any_of HT_.out (by kernel_rfl)) (h := ?_)
        refine done_ (done_of HT_.out (by kernel_rfl)) ?_
        try go_wp2
        go_ret
        exact ⟨by first | rfl | (simp [errW_none, errW_some] <;> rfl) | (simp [*, errW_none, errW_some] <;> rfl), sq_below HB.out⟩
      ·
       rw [if_neg c6] at H; exact absurd H (by simp)
     ·
      rw [if_neg c5] at H; exact absurd H (by simp)
    ·
     rw [if_neg c4] at H; have c4b0 : decide (x5_1 < (l0.length : Int)) = false := decide_eq_false c4; clear c4; obtain rfl := Option.some.inj H
     go_wp2
     go_ret
     exact ⟨by first | rfl | (simp [errW_none, errW_some] <;> rfl) | (simp [*, errW_none, errW_some] <;> rfl), sq_below HB.out⟩
 ·
  rw [if_neg c3] at H; have c3b0 : ((l0.length : Int) == (l1.length : Int)) = false := beq_eq_false_iff_ne.mpr c3; have c3b1 : ((l0.length : Int) != (l1.length : Int)) = true := bne_iff_ne.mpr c3; have c3b2 : (l0.length == l1.length) = false := by first | simpa using c3 | (simp at c3 ⊢; omega)
  obtain rfl := Option.some.inj H
  go_enter Try.func45, Try.ntmps45
  go_wp2
  go_ret
  exact ⟨by first | rfl | (simp [errW_none, errW_some] <;> rfl) | (simp [*, errW_none, errW_some] <;> rfl), sq_below HB.out⟩
set_option maxHeartbeats 8000000 in
set_option maxRecDepth 100000 in
theorem laws_eqNode.calls (k : Nat) : ∀ (a0_0 : Int) (a0_1 : ByteArray) (a0_2 : Int) (A0_3 : Option Addr) (c0_3 : Nat) (l0_3 : List (S56)) (a1_0 : Int) (a1_1 : ByteArray) (a1_2 : Int) (A1_3 : Option Addr) (c1_3 : Nat) (l1_3 : List (S56)) (r : Bool) (w : World) (hr0_3 : Kd.C k56 w A0_3 l0_3.length l0_3) (hc0_3 : l0_3.length ≤ c0_3) (hr1_3 : Kd.C k56 w A1_3 l1_3.length l1_3) (hc1_3 : l1_3.length ≤ c1_3) (h : laws_eqNode.f k a0_0 a0_1 a0_2 l0_3 a1_0 a1_1 a1_2 l1_3 = some r),
  Calls Try.prog 40 #[.agg #[.int .i64 a0_0, .string a0_1, .int .i64 a0_2, .slice A0_3 l0_3.length c0_3], .agg #[.int .i64 a1_0, .string a1_1, .int .i64 a1_2, .slice A1_3 l1_3.length c1_3]] w fun e w' => e = .returned (.bool r) ∧ Below w.heap.size w w' := by
 induction k using Nat.strongRecOn with
 | _ k ih =>
 intro a0_0 a0_1 a0_2 A0_3 c0_3 l0_3 a1_0 a1_1 a1_2 A1_3 c1_3 l1_3 r w hr0_3 hc0_3 hr1_3 hc1_3 h; cases k with
 | zero => exact absurd h (by simp [laws_eqNode.f])
 | succ k =>
 simp only [laws_eqNode.f] at h; have hu56 := Try.underlying56; have HR0_3 := Aside0.mk hr0_3; have HC0_3 := Aside0.mk hc0_3; clear hr0_3 hc0_3; have HR1_3 := Aside0.mk hr1_3; have HC1_3 := Aside0.mk hc1_3; clear hr1_3 hc1_3; have HB := Aside0.mk (Below.refl w.heap.size w); have H : (if a0_0 = a1_0 then (if a0_1.toList = a1_1.toList then (if a0_2 = a1_2 then ((laws_eqNodeS.f k l0_3 l1_3).bind fun t249 => (if t249 = true then (some true) else (some false))) else (some false)) else (some false)) else (some false)) = some r := h; clear h
 by_cases c3 : a0_0 = a1_0
 ·
  rw [if_pos c3] at H; have c3b0 : (a0_0 == a1_0) = true := beq_iff_eq.mpr c3; have c3b1 : (a0_0 != a1_0) = false := bne_eq_false_iff_eq.mpr c3; clear c3
  by_cases c4 : a0_1.toList = a1_1.toList
  ·
   rw [if_pos c4] at H; have c4b0 : (a0_1.toList == a1_1.toList) = true := beq_iff_eq.mpr c4; have c4b1 : (a0_1.toList != a1_1.toList) = false := bne_eq_false_iff_eq.mpr c4; clear c4
   by_cases c5 : a0_2 = a1_2
   ·
    rw [if_pos c5] at H; have c5b0 : (a0_2 == a1_2) = true := beq_iff_eq.mpr c5; have c5b1 : (a0_2 != a1_2) = false := bne_eq_false_iff_eq.mpr c5; clear c5; replace H := Option.bind_eq_some_iff.mp H; obtain ⟨t249, A60, H⟩ := H; (try dsimp only at H); have A6 := Aside0.mk A60; clear A60
    by_cases c7 : t249 = true
    ·
     subst c7; have H1 := ifp_ H
     clear H; have H := H1; clear H1; obtain rfl := Option.some.inj H
     go_enter Try.func40, Try.ntmps40
     go_wp2_with (first | ((with_reducible refine gate_dst (N := 2) rfl ?_); refine box_y 2 #[.int .i64 a0_0, .string a0_1, .int .i64 a0_2, .slice A0_3 l0_3.length c0_3] 56 (h := ?_); intro gb247 hg w8 hbox hb; have n0_ := Aside0.mk (below_step (sq_below HB.out) hb); have n1_ := Aside0.mk (hbox); have n2_ := ge_ hg (below_size (sq_below HB.out)); have n3_ := ge_ hg (below_size (sq_below HB.out)); clear HB; have HB := n0_; have BK247 := n1_; have GW247 := n2_; have GE247 := n3_; clear n0_ n1_ n2_ n3_; clear hb hbox hg) | ((with_reducible refine gate_dst (N := 3) rfl ?_); refine box_y 3 #[.int .i64 a1_0, .string a1_1, .int .i64 a1_2, .slice A1_3 l1_3.length c1_3] 56 (h := ?_); intro gb248 hg w9 hbox hb; have n0_ := Aside0.mk (blk_below (sq_blk BK247.out) hb); have n1_ := Aside0.mk (below_step (sq_below1 HB.out GE247.out) hb); have n2_ := Aside0.mk (hbox); have n3_ := ge_ hg (below_size (sq_below1 HB.out GE247.out)); have n4_ := ge_ hg (below_size (sq_below1 HB.out GE247.out)); have n5_ := nb_ hg BK247; have n6_ := Aside0.mk (Ne.symm n5_.out); clear BK247; clear HB; have BK247 := n0_; have HB := n1_; have BK248 := n2_; have GW248 := n3_; have GE248 := n4_; have NB247_248 := n5_; have NB248_247 := n6_; clear n0_ n1_ n2_ n3_ n4_ n5_ n6_; clear hb hbox hg; have hnb10 := NB247_248.out; have hnc10 := NB248_247.out; have hcz11_0 := cl_ (v := .int .i64 a0_0) BK247 0; have hcz11_1 := cl_ (v := .string a0_1) BK247 1; have hcz11_2 := cl_ (v := .int .i64 a0_2) BK247 2; have hcz11_3 := cl_ (v := .slice A0_3 l0_3.length c0_3) BK247 3; have hfz11_0 := blk_frozen BK247.out 0; have hfz11_1 := blk_frozen BK247.out 1; have hfz11_2 := blk_frozen BK247.out 2; have hfz11_3 := blk_frozen BK247.out 3; have hcz12_0 := cl_ (v := .int .i64 a1_0) BK248 0; have hcz12_1 := cl_ (v := .string a1_1) BK248 1; have hcz12_2 := cl_ (v := .int .i64 a1_2) BK248 2; have hcz12_3 := cl_ (v := .slice A1_3 l1_3.length c1_3) BK248 3; have hfz12_0 := blk_frozen BK248.out 0; have hfz12_1 := blk_frozen BK248.out 1; have hfz12_2 := blk_frozen BK248.out 2; have hfz12_3 := blk_frozen BK248.out 3) | ((with_reducible refine gate_callee (f := 45) rfl ?_); refine gl_ 24 Try.func45 #[.slice A0_3 l0_3.length c0_3, .slice A1_3 l1_3.length c1_3] (h := ?_); (with_reducible refine (laws_eqNodeS.calls_ k (fun m_ hm_ => ih m_ (by omega)) _ _ l0_3 _ _ l1_3 true _ ?side1 ?side2 ?side3 ?side4 A6.out).mono ?_); (case side1 => exact sq_c (Kd.C_below HR0_3.out HB.out)); (case side2 => exact HC0_3.out); (case side3 => exact sq_c (Kd.C_below HR1_3.out HB.out)); (case side4 => exact HC1_3.out); rintro e w13 ⟨rfl, hb⟩; refine ⟨_, rfl, ?_⟩; replace HB := hb_ HB hb; (try clear hb)))
     go_ret
     exact ⟨by first | rfl | (simp [errW_none, errW_some] <;> rfl) | (simp [*, errW_none, errW_some] <;> rfl), sq_below HB.out⟩
    ·
     replace c7 := Bool.eq_false_iff.mpr c7; subst c7; have H1 := ifn_ H
     clear H; have H := H1; clear H1; obtain rfl := Option.some.inj H
     go_enter Try.func40, Try.ntmps40
     go_wp2_with (first | ((with_reducible refine gate_dst (N := 2) rfl ?_); refine box_y 2 #[.int .i64 a0_0, .string a0_1, .int .i64 a0_2, .slice A0_3 l0_3.length c0_3] 56 (h := ?_); intro gb247 hg w14 hbox hb; have n0_ := Aside0.mk (below_step (sq_below HB.out) hb); have n1_ := Aside0.mk (hbox); have n2_ := ge_ hg (below_size (sq_below HB.out)); have n3_ := ge_ hg (below_size (sq_below HB.out)); clear HB; have HB := n0_; have BK247 := n1_; have GW247 := n2_; have GE247 := n3_; clear n0_ n1_ n2_ n3_; clear hb hbox hg) | ((with_reducible refine gate_dst (N := 3) rfl ?_); refine box_y 3 #[.int .i64 a1_0, .string a1_1, .int .i64 a1_2, .slice A1_3 l1_3.length c1_3] 56 (h := ?_); intro gb248 hg w15 hbox hb; have n0_ := Aside0.mk (blk_below (sq_blk BK247.out) hb); have n1_ := Aside0.mk (below_step (sq_below1 HB.out GE247.out) hb); have n2_ := Aside0.mk (hbox); have n3_ := ge_ hg (below_size (sq_below1 HB.out GE247.out)); have n4_ := ge_ hg (below_size (sq_below1 HB.out GE247.out)); have n5_ := nb_ hg BK247; have n6_ := Aside0.mk (Ne.symm n5_.out); clear BK247; clear HB; have BK247 := n0_; have HB := n1_; have BK248 := n2_; have GW248 := n3_; have GE248 := n4_; have NB247_248 := n5_; have NB248_247 := n6_; clear n0_ n1_ n2_ n3_ n4_ n5_ n6_; clear hb hbox hg; have hnb16 := NB247_248.out; have hnc16 := NB248_247.out; have hcz17_0 := cl_ (v := .int .i64 a0_0) BK247 0; have hcz17_1 := cl_ (v := .string a0_1) BK247 1; have hcz17_2 := cl_ (v := .int .i64 a0_2) BK247 2; have hcz17_3 := cl_ (v := .slice A0_3 l0_3.length c0_3) BK247 3; have hfz17_0 := blk_frozen BK247.out 0; have hfz17_1 := blk_frozen BK247.out 1; have hfz17_2 := blk_frozen BK247.out 2; have hfz17_3 := blk_frozen BK247.out 3; have hcz18_0 := cl_ (v := .int .i64 a1_0) BK248 0; have hcz18_1 := cl_ (v := .string a1_1) BK248 1; have hcz18_2 := cl_ (v := .int .i64 a1_2) BK248 2; have hcz18_3 := cl_ (v := .slice A1_3 l1_3.length c1_3) BK248 3; have hfz18_0 := blk_frozen BK248.out 0; have hfz18_1 := blk_frozen BK248.out 1; have hfz18_2 := blk_frozen BK248.out 2; have hfz18_3 := blk_frozen BK248.out 3) | ((with_reducible refine gate_callee (f := 45) rfl ?_); refine gl_ 24 Try.func45 #[.slice A0_3 l0_3.length c0_3, .slice A1_3 l1_3.length c1_3] (h := ?_); (with_reducible refine (laws_eqNodeS.calls_ k (fun m_ hm_ => ih m_ (by omega)) _ _ l0_3 _ _ l1_3 false _ ?side1 ?side2 ?side3 ?side4 A6.out).mono ?_); (case side1 => exact sq_c (Kd.C_below HR0_3.out HB.out)); (case side2 => exact HC0_3.out); (case side3 => exact sq_c (Kd.C_below HR1_3.out HB.out)); (case side4 => exact HC1_3.out); rintro e w19 ⟨rfl, hb⟩; refine ⟨_, rfl, ?_⟩; replace HB := hb_ HB hb; (try clear hb)))
     go_ret
     exact ⟨by first | rfl | (simp [errW_none, errW_some] <;> rfl) | (simp [*, errW_none, errW_some] <;> rfl), sq_below HB.out⟩
   ·
    rw [if_neg c5] at H; have c5b0 : (a0_2 == a1_2) = false := beq_eq_false_iff_ne.mpr c5; have c5b1 : (a0_2 != a1_2) = true := bne_iff_ne.mpr c5; obtain rfl := Option.some.inj H
    go_enter Try.func40, Try.ntmps40
    go_wp2_with (first | ((with_reducible refine gate_dst (N := 2) rfl ?_); refine box_y 2 #[.int .i64 a0_0, .string a0_1, .int .i64 a0_2, .slice A0_3 l0_3.length c0_3] 56 (h := ?_); intro gb247 hg w20 hbox hb; have n0_ := Aside0.mk (below_step (sq_below HB.out) hb); have n1_ := Aside0.mk (hbox); have n2_ := ge_ hg (below_size (sq_below HB.out)); have n3_ := ge_ hg (below_size (sq_below HB.out)); clear HB; have HB := n0_; have BK247 := n1_; have GW247 := n2_; have GE247 := n3_; clear n0_ n1_ n2_ n3_; clear hb hbox hg) | ((with_reducible refine gate_dst (N := 3) rfl ?_); refine box_y 3 #[.int .i64 a1_0, .string a1_1, .int .i64 a1_2, .slice A1_3 l1_3.length c1_3] 56 (h := ?_); intro gb248 hg w21 hbox hb; have n0_ := Aside0.mk (blk_below (sq_blk BK247.out) hb); have n1_ := Aside0.mk (below_step (sq_below1 HB.out GE247.out) hb); have n2_ := Aside0.mk (hbox); have n3_ := ge_ hg (below_size (sq_below1 HB.out GE247.out)); have n4_ := ge_ hg (below_size (sq_below1 HB.out GE247.out)); have n5_ := nb_ hg BK247; have n6_ := Aside0.mk (Ne.symm n5_.out); clear BK247; clear HB; have BK247 := n0_; have HB := n1_; have BK248 := n2_; have GW248 := n3_; have GE248 := n4_; have NB247_248 := n5_; have NB248_247 := n6_; clear n0_ n1_ n2_ n3_ n4_ n5_ n6_; clear hb hbox hg; have hnb22 := NB247_248.out; have hnc22 := NB248_247.out; have hcz23_0 := cl_ (v := .int .i64 a0_0) BK247 0; have hcz23_1 := cl_ (v := .string a0_1) BK247 1; have hcz23_2 := cl_ (v := .int .i64 a0_2) BK247 2; have hcz23_3 := cl_ (v := .slice A0_3 l0_3.length c0_3) BK247 3; have hfz23_0 := blk_frozen BK247.out 0; have hfz23_1 := blk_frozen BK247.out 1; have hfz23_2 := blk_frozen BK247.out 2; have hfz23_3 := blk_frozen BK247.out 3; have hcz24_0 := cl_ (v := .int .i64 a1_0) BK248 0; have hcz24_1 := cl_ (v := .string a1_1) BK248 1; have hcz24_2 := cl_ (v := .int .i64 a1_2) BK248 2; have hcz24_3 := cl_ (v := .slice A1_3 l1_3.length c1_3) BK248 3; have hfz24_0 := blk_frozen BK248.out 0; have hfz24_1 := blk_frozen BK248.out 1; have hfz24_2 := blk_frozen BK248.out 2; have hfz24_3 := blk_frozen BK248.out 3))
    go_ret
    exact ⟨by first | rfl | (simp [errW_none, errW_some] <;> rfl) | (simp [*, errW_none, errW_some] <;> rfl), sq_below1 HB.out GE248.out⟩
  ·
   rw [if_neg c4] at H; have c4b0 : (a0_1.toList == a1_1.toList) = false := beq_eq_false_iff_ne.mpr c4; have c4b1 : (a0_1.toList != a1_1.toList) = true := bne_iff_ne.mpr c4; obtain rfl := Option.some.inj H
   go_enter Try.func40, Try.ntmps40
   go_wp2_with (first | ((with_reducible refine gate_dst (N := 2) rfl ?_); refine box_y 2 #[.int .i64 a0_0, .string a0_1, .int .i64 a0_2, .slice A0_3 l0_3.length c0_3] 56 (h := ?_); intro gb247 hg w25 hbox hb; have n0_ := Aside0.mk (below_step (sq_below HB.out) hb); have n1_ := Aside0.mk (hbox); have n2_ := ge_ hg (below_size (sq_below HB.out)); have n3_ := ge_ hg (below_size (sq_below HB.out)); clear HB; have HB := n0_; have BK247 := n1_; have GW247 := n2_; have GE247 := n3_; clear n0_ n1_ n2_ n3_; clear hb hbox hg) | ((with_reducible refine gate_dst (N := 3) rfl ?_); refine box_y 3 #[.int .i64 a1_0, .string a1_1, .int .i64 a1_2, .slice A1_3 l1_3.length c1_3] 56 (h := ?_); intro gb248 hg w26 hbox hb; have n0_ := Aside0.mk (blk_below (sq_blk BK247.out) hb); have n1_ := Aside0.mk (below_step (sq_below1 HB.out GE247.out) hb); have n2_ := Aside0.mk (hbox); have n3_ := ge_ hg (below_size (sq_below1 HB.out GE247.out)); have n4_ := ge_ hg (below_size (sq_below1 HB.out GE247.out)); have n5_ := nb_ hg BK247; have n6_ := Aside0.mk (Ne.symm n5_.out); clear BK247; clear HB; have BK247 := n0_; have HB := n1_; have BK248 := n2_; have GW248 := n3_; have GE248 := n4_; have NB247_248 := n5_; have NB248_247 := n6_; clear n0_ n1_ n2_ n3_ n4_ n5_ n6_; clear hb hbox hg; have hnb27 := NB247_248.out; have hnc27 := NB248_247.out; have hcz28_0 := cl_ (v := .int .i64 a0_0) BK247 0; have hcz28_1 := cl_ (v := .string a0_1) BK247 1; have hcz28_2 := cl_ (v := .int .i64 a0_2) BK247 2; have hcz28_3 := cl_ (v := .slice A0_3 l0_3.length c0_3) BK247 3; have hfz28_0 := blk_frozen BK247.out 0; have hfz28_1 := blk_frozen BK247.out 1; have hfz28_2 := blk_frozen BK247.out 2; have hfz28_3 := blk_frozen BK247.out 3; have hcz29_0 := cl_ (v := .int .i64 a1_0) BK248 0; have hcz29_1 := cl_ (v := .string a1_1) BK248 1; have hcz29_2 := cl_ (v := .int .i64 a1_2) BK248 2; have hcz29_3 := cl_ (v := .slice A1_3 l1_3.length c1_3) BK248 3; have hfz29_0 := blk_frozen BK248.out 0; have hfz29_1 := blk_frozen BK248.out 1; have hfz29_2 := blk_frozen BK248.out 2; have hfz29_3 := blk_frozen BK248.out 3))
   go_ret
   exact ⟨by first | rfl | (simp [errW_none, errW_some] <;> rfl) | (simp [*, errW_none, errW_some] <;> rfl), sq_below1 HB.out GE248.out⟩
 ·
  rw [if_neg c3] at H; have c3b0 : (a0_0 == a1_0) = false := beq_eq_false_iff_ne.mpr c3; have c3b1 : (a0_0 != a1_0) = true := bne_iff_ne.mpr c3; obtain rfl := Option.some.inj H
  go_enter Try.func40, Try.ntmps40
  go_wp2_with (first | ((with_reducible refine gate_dst (N := 2) rfl ?_); refine box_y 2 #[.int .i64 a0_0, .string a0_1, .int .i64 a0_2, .slice A0_3 l0_3.length c0_3] 56 (h := ?_); intro gb247 hg w30 hbox hb; have n0_ := Aside0.mk (below_step (sq_below HB.out) hb); have n1_ := Aside0.mk (hbox); have n2_ := ge_ hg (below_size (sq_below HB.out)); have n3_ := ge_ hg (below_size (sq_below HB.out)); clear HB; have HB := n0_; have BK247 := n1_; have GW247 := n2_; have GE247 := n3_; clear n0_ n1_ n2_ n3_; clear hb hbox hg) | ((with_reducible refine gate_dst (N := 3) rfl ?_); refine box_y 3 #[.int .i64 a1_0, .string a1_1, .int .i64 a1_2, .slice A1_3 l1_3.length c1_3] 56 (h := ?_); intro gb248 hg w31 hbox hb; have n0_ := Aside0.mk (blk_below (sq_blk BK247.out) hb); have n1_ := Aside0.mk (below_step (sq_below1 HB.out GE247.out) hb); have n2_ := Aside0.mk (hbox); have n3_ := ge_ hg (below_size (sq_below1 HB.out GE247.out)); have n4_ := ge_ hg (below_size (sq_below1 HB.out GE247.out)); have n5_ := nb_ hg BK247; have n6_ := Aside0.mk (Ne.symm n5_.out); clear BK247; clear HB; have BK247 := n0_; have HB := n1_; have BK248 := n2_; have GW248 := n3_; have GE248 := n4_; have NB247_248 := n5_; have NB248_247 := n6_; clear n0_ n1_ n2_ n3_ n4_ n5_ n6_; clear hb hbox hg; have hnb32 := NB247_248.out; have hnc32 := NB248_247.out; have hcz33_0 := cl_ (v := .int .i64 a0_0) BK247 0; have hcz33_1 := cl_ (v := .string a0_1) BK247 1; have hcz33_2 := cl_ (v := .int .i64 a0_2) BK247 2; have hcz33_3 := cl_ (v := .slice A0_3 l0_3.length c0_3) BK247 3; have hfz33_0 := blk_frozen BK247.out 0; have hfz33_1 := blk_frozen BK247.out 1; have hfz33_2 := blk_frozen BK247.out 2; have hfz33_3 := blk_frozen BK247.out 3; have hcz34_0 := cl_ (v := .int .i64 a1_0) BK248 0; have hcz34_1 := cl_ (v := .string a1_1) BK248 1; have hcz34_2 := cl_ (v := .int .i64 a1_2) BK248 2; have hcz34_3 := cl_ (v := .slice A1_3 l1_3.length c1_3) BK248 3; have hfz34_0 := blk_frozen BK248.out 0; have hfz34_1 := blk_frozen BK248.out 1; have hfz34_2 := blk_frozen BK248.out 2; have hfz34_3 := blk_frozen BK248.out 3))
  go_ret
  exact ⟨by first | rfl | (simp [errW_none, errW_some] <;> rfl) | (simp [*, errW_none, errW_some] <;> rfl), sq_below1 HB.out GE248.out⟩
theorem laws_eqNodeS.calls (k : Nat) : ∀ (A0 : Option Addr) (c0 : Nat) (l0 : List (S56)) (A1 : Option Addr) (c1 : Nat) (l1 : List (S56)) (r : Bool) (w : World) (hr0 : Kd.C k56 w A0 l0.length l0) (hc0 : l0.length ≤ c0) (hr1 : Kd.C k56 w A1 l1.length l1) (hc1 : l1.length ≤ c1) (h : laws_eqNodeS.f k l0 l1 = some r),
  Calls Try.prog 45 #[.slice A0 l0.length c0, .slice A1 l1.length c1] w fun e w' => e = .returned (.bool r) ∧ Below w.heap.size w w' := laws_eqNodeS.calls_ k (fun m_ _ => laws_eqNode.calls m_)

end Go.Proofs.Ytmdebfbkehnocaa.Q
