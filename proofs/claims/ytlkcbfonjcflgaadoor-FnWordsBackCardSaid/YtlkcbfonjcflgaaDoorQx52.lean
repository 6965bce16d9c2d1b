/- Functions of the translation as Lean functions, each with a proof that a call answers so; out of the seat, by this claim's own program prt.py. -/
import Derived.Test.YtlkcbfonjcflgaaDoorWRepsOne
import Derived.Test.YtlkcbfonjcflgaaDoorQx0
import Derived.Test.YtlkcbfonjcflgaaDoorQx51
namespace Go.Proofs.YtlkcbfonjcflgaaDoor.Q
open Go.RowKit Go.Proofs.YtlkcbfonjcflgaaDoorW.PrintWords Go.Proofs.YtlkcbfonjcflgaaDoorW.PrintLast Go.Proofs.YtlkcbfonjcflgaaDoorW.PrintMore
attribute [local go_sem] max2_int min2_int max_two min_two max_three min_three max_four min_four   -- for this text's walks alone
set_option linter.unusedVariables false
set_option linter.unusedSimpArgs false

/-! ### spec_WordsText: function 35 -/
def spec_WordsText.l0 : Nat → List (S73) → ByteArray → Int → Option (ByteArray)
 | 0, _, _, _ => none
 | k + 1, x0, x3, x4 => if x4 < (x0.length : Int) then (if 0 ≤ x4 then ((spec_WordOk.f k ((rd_T73 x0 x4).f0) ((rd_T73 x0 x4).f1) ((rd_T73 x0 x4).f2)).bind fun t722 => (if t722 = true then (if x4 > 0 then (if x3.size + 1 ≤ 9223372036854775807 then (if x3.size + 1 + ((rd_T73 x0 x4).f1).size ≤ 9223372036854775807 then (if ((x3.size : Int) + 1 + (((rd_T73 x0 x4).f1).size : Int)) > 4000 then (some (⟨#[]⟩ : ByteArray)) else (spec_WordsText.l0 k x0 ((x3 ++ (⟨#[32]⟩ : ByteArray)) ++ ((rd_T73 x0 x4).f1)) (wrap64 (x4 + 1)))) else (none)) else (none)) else (if x3.size + ((rd_T73 x0 x4).f1).size ≤ 9223372036854775807 then (if ((x3.size : Int) + (((rd_T73 x0 x4).f1).size : Int)) > 4000 then (some (⟨#[]⟩ : ByteArray)) else (spec_WordsText.l0 k x0 (x3 ++ ((rd_T73 x0 x4).f1)) (wrap64 (x4 + 1)))) else (none))) else (some (⟨#[]⟩ : ByteArray)))) else (none)) else (some x3)
def spec_WordsText.f (k : Nat) (l0 : List (S73)) : Option (ByteArray) := if (l0.length : Int) > 1500 then (some (⟨#[]⟩ : ByteArray)) else (spec_WordsText.l0 k l0 (⟨#[]⟩ : ByteArray) 0)
theorem spec_WordsText.mono_l : ∀ k, (∀ y0 y1 y2, LeO (spec_WordsText.l0 k y0 y1 y2) (spec_WordsText.l0 (k + 1) y0 y1 y2))
 | 0 => fun _ _ _ r h => by simp [spec_WordsText.l0] at h
 | k + 1 => by
  have ih0 := spec_WordsText.mono_l k
  ·
   intro y0 y1 y2; unfold spec_WordsText.l0
   repeat' first
   | (with_reducible exact ih0 _ _ _)
   | (with_reducible exact spec_WordOk.mono _ _ _ _)
   | (with_reducible exact LeO.refl _)
   | (with_reducible exact LeO.none _)
   | (with_reducible refine LeO.ite ?_ ?_)
   | (with_reducible refine LeO.bind ?_ (fun _ => ?_))
   | exact ih0 _ _ _
   | exact spec_WordOk.mono _ _ _ _
   | exact LeO.none _
   | refine LeO.ite ?_ ?_
   | refine LeO.bind ?_ (fun _ => ?_)
theorem spec_WordsText.mono : ∀ a0 k, LeO (spec_WordsText.f k a0) (spec_WordsText.f (k + 1) a0) := by
 intro a0 k; have ih0 := spec_WordsText.mono_l k; unfold spec_WordsText.f
 repeat' first
   | (with_reducible exact ih0 _ _ _)
   | (with_reducible exact spec_WordOk.mono _ _ _ _)
   | (with_reducible exact LeO.refl _)
   | (with_reducible exact LeO.none _)
   | (with_reducible refine LeO.ite ?_ ?_)
   | (with_reducible refine LeO.bind ?_ (fun _ => ?_))
   | exact ih0 _ _ _
   | exact spec_WordOk.mono _ _ _ _
   | exact LeO.none _
   | refine LeO.ite ?_ ?_
   | refine LeO.bind ?_ (fun _ => ?_)
set_option maxHeartbeats 8000000 in
set_option maxRecDepth 100000 in
theorem spec_WordsText.calls (k : Nat) (A0 : Option Addr) (c0 : Nat) (l0 : List (S73)) (r : ByteArray) (w : World) (hr0 : Kd.C k73 w A0 l0.length l0) (hc0 : l0.length ≤ c0) (h : spec_WordsText.f k l0 = some r) :
  Calls Tryd.prog 35 #[.slice A0 l0.length c0] w fun e w' => e = .returned (.string r) ∧ Below w.heap.size w w' := by
 have hu73 := Tryd.underlying73; have HR0 := Aside0.mk hr0; have HC0 := Aside0.mk hc0; clear hr0 hc0; have HB := Aside0.mk (Below.refl w.heap.size w); have H : (if (l0.length : Int) > 1500 then (some (⟨#[]⟩ : ByteArray)) else (spec_WordsText.l0 k l0 (⟨#[]⟩ : ByteArray) 0)) = some r := h; clear h
 by_cases c2 : (l0.length : Int) > 1500
 ·
  rw [if_pos c2] at H; have c2b0 : decide (1500 < (l0.length : Int)) = true := decide_eq_true c2; have c2b1 : decide (1500 < l0.length) = true := decide_eq_true (by omega); clear c2; obtain rfl := Option.some.inj H
  go_enter Tryd.func35, Tryd.ntmps35
  go_wp2
  go_ret
  exact ⟨by first | rfl | (simp [errW_none, errW_some] <;> rfl) | (simp [*, errW_none, errW_some] <;> rfl), by repeat (first | (with_reducible first | exact HB.out | apply below_alloc | apply pw_below_drewN | apply below_drew1) | exact HB.out)⟩
 ·
  rw [if_neg c2] at H; have c2b0 : decide (1500 < (l0.length : Int)) = false := decide_eq_false c2; have c2b1 : decide (1500 < l0.length) = false := decide_eq_false (by omega); clear c2; have H' := Aside0.mk H; clear H
  go_enter Tryd.func35, Tryd.ntmps35
  go_wp2
  go_loopg [3, 4] k (fun kq v3 v4 w' => ∃ (x3_1 : ByteArray) (x4_1 : Int), v3 = .string x3_1 ∧ v4 = .int .i64 x4_1 ∧ Aside0 (spec_WordsText.l0 kq l0 x3_1 x4_1 = some r) ∧ Aside0 (kq ≤ k) ∧ Aside0 (Below w.heap.size w w'))
  case atStart => exact ⟨((⟨#[]⟩ : ByteArray)), (0), (by first | rfl | (simp; done) | (simp [*]; done)), (by first | rfl | (simp; done) | (simp [*]; done)), H', ⟨Nat.le_refl _⟩, ⟨by repeat (first | (with_reducible first | exact HB.out | apply below_alloc | apply pw_below_drewN | apply below_drew1) | exact HB.out)⟩⟩
  case round =>
   clear H'
   try clear c2
   try clear c2b0
   try clear c2b1
   try clear p2
   obtain ⟨x3_1, x4_1, rfl, rfl, HA, HK1, HB⟩ := hrel; cases gk with
   | zero => exact absurd HA.out (by simp [spec_WordsText.l0])
   | succ k1 =>
    have H := HA.out; clear HA; simp only [spec_WordsText.l0] at H
    by_cases c3 : x4_1 < (l0.length : Int)
    ·
     rw [if_pos c3] at H; have c3b0 : decide (x4_1 < (l0.length : Int)) = true := decide_eq_true c3; clear c3
     by_cases c4 : 0 ≤ x4_1
     ·
      rw [if_pos c4] at H; have c4b0 : decide (0 ≤ x4_1) = true := decide_eq_true c4; clear c4; replace H := Option.bind_eq_some_iff.mp H; obtain ⟨t722, A50, H⟩ := H; replace H : (if t722 = true then (if x4_1 > 0 then (if x3_1.size + 1 ≤ 9223372036854775807 then (if x3_1.size + 1 + ((rd_T73 l0 x4_1).f1).size ≤ 9223372036854775807 then (if ((x3_1.size : Int) + 1 + (((rd_T73 l0 x4_1).f1).size : Int)) > 4000 then (some (⟨#[]⟩ : ByteArray)) else (spec_WordsText.l0 k1 l0 ((x3_1 ++ (⟨#[32]⟩ : ByteArray)) ++ ((rd_T73 l0 x4_1).f1)) (wrap64 (x4_1 + 1)))) else (none)) else (none)) else (if x3_1.size + ((rd_T73 l0 x4_1).f1).size ≤ 9223372036854775807 then (if ((x3_1.size : Int) + (((rd_T73 l0 x4_1).f1).size : Int)) > 4000 then (some (⟨#[]⟩ : ByteArray)) else (spec_WordsText.l0 k1 l0 (x3_1 ++ ((rd_T73 l0 x4_1).f1)) (wrap64 (x4_1 + 1)))) else (none))) else (some (⟨#[]⟩ : ByteArray))) = some r := H; have A5 := Aside0.mk A50; clear A50
      by_cases c6 : t722 = true
      ·
       subst c6; have H1 : (if x4_1 > 0 then (if x3_1.size + 1 ≤ 9223372036854775807 then (if x3_1.size + 1 + ((rd_T73 l0 x4_1).f1).size ≤ 9223372036854775807 then (if ((x3_1.size : Int) + 1 + (((rd_T73 l0 x4_1).f1).size : Int)) > 4000 then (some (⟨#[]⟩ : ByteArray)) else (spec_WordsText.l0 k1 l0 ((x3_1 ++ (⟨#[32]⟩ : ByteArray)) ++ ((rd_T73 l0 x4_1).f1)) (wrap64 (x4_1 + 1)))) else (none)) else (none)) else (if x3_1.size + ((rd_T73 l0 x4_1).f1).size ≤ 9223372036854775807 then (if ((x3_1.size : Int) + (((rd_T73 l0 x4_1).f1).size : Int)) > 4000 then (some (⟨#[]⟩ : ByteArray)) else (spec_WordsText.l0 k1 l0 (x3_1 ++ ((rd_T73 l0 x4_1).f1)) (wrap64 (x4_1 + 1)))) else (none))) = some r := by rw [if_pos rfl] at H; exact H
       clear H; have H := H1; clear H1
       by_cases c7 : x4_1 > 0
       ·
        rw [if_pos c7] at H; have c7b0 : decide (0 < x4_1) = true := decide_eq_true c7; clear c7
        by_cases c8 : x3_1.size + 1 ≤ 9223372036854775807
        ·
         rw [if_pos c8] at H; have c8b0 := eq_true c8; have c8b1 : decide (x3_1.size + 1 ≤ 9223372036854775807) = true := decide_eq_true c8
         try have c8b2 : (9223372036854775807 < x3_1.size + 1) = False := eq_false (Nat.not_lt.2 c8)
         by_cases c9 : x3_1.size + 1 + ((rd_T73 l0 x4_1).f1).size ≤ 9223372036854775807
         ·
          rw [if_pos c9] at H; have c9b0 := eq_true c9; have c9b1 : decide (x3_1.size + 1 + ((rd_T73 l0 x4_1).f1).size ≤ 9223372036854775807) = true := decide_eq_true c9
          try have c9b2 : (9223372036854775807 < x3_1.size + 1 + ((rd_T73 l0 x4_1).f1).size) = False := eq_false (Nat.not_lt.2 c9)
          by_cases c10 : ((x3_1.size : Int) + 1 + (((rd_T73 l0 x4_1).f1).size : Int)) > 4000
          ·
           rw [if_pos c10] at H; have c10b0 : decide (4000 < ((x3_1.size : Int) + 1 + (((rd_T73 l0 x4_1).f1).size : Int))) = true := decide_eq_true c10; clear c10; obtain rfl := Option.some.inj H; have p721 : 0 ≤ (x4_1 : Int) := of_decide_eq_true (by first | (with_reducible assumption) | assumption); have q721 : x4_1 < (l0.length : Int) := of_decide_eq_true (by first | (with_reducible assumption) | assumption); obtain ⟨ad721, e721, hx721_0, hx721_1, hx721_2⟩ := at_T73 HR0.out x4_1 p721 q721; cases e721; replace hx721_0 := (HB.out.cell (World.block_lt_of_cell? w _ hx721_0)).trans hx721_0; replace hx721_1 := (HB.out.cell (World.block_lt_of_cell? w _ hx721_1)).trans hx721_1; replace hx721_2 := (HB.out.cell (World.block_lt_of_cell? w _ hx721_2)).trans hx721_2; replace p721 := eq_true p721; replace q721 := eq_true q721
           go_wp2_with (first | ((with_reducible refine gate_callee (f := 82) rfl ?_); refine goesL_ (some 18) rfl rfl Tryd.func82 (by kernel_rfl) rfl #[.agg #[.int .i64 ((rd_T73 l0 x4_1).f0), .string ((rd_T73 l0 x4_1).f1), .int .i64 ((rd_T73 l0 x4_1).f2)]] rfl (by (try simp only [List.map_toArray, List.map_cons, List.map_nil]); first | done | rfl | (simp only [List.length_drop, List.length_take]; rfl)) ?_; (with_reducible refine (spec_WordOk.calls k1 ((rd_T73 l0 x4_1).f0) ((rd_T73 l0 x4_1).f1) ((rd_T73 l0 x4_1).f2) true _ A5.out).mono ?_); rintro e w11 ⟨rfl, hb⟩; refine ⟨_, rfl, ?_⟩; have n0_ := Aside0.mk (below_step (by repeat (first | (with_reducible first | exact HB.out | apply below_alloc | apply pw_below_drewN | apply below_drew1) | exact HB.out)) hb); clear HB; have HB := n0_; clear n0_; (try clear hb); (try clear hb2); (try clear hk); (try clear hi); have p723 : 0 ≤ (x4_1 : Int) := of_decide_eq_true (by first | (with_reducible assumption) | assumption); have q723 : x4_1 < (l0.length : Int) := of_decide_eq_true (by first | (with_reducible assumption) | assumption); obtain ⟨ad723, e723, hx723_0, hx723_1, hx723_2⟩ := at_T73 HR0.out x4_1 p723 q723; obtain rfl : ad721 = ad723 := (by injection e723); replace hx723_0 := (HB.out.cell (World.block_lt_of_cell? w _ hx723_0)).trans hx723_0; replace hx723_1 := (HB.out.cell (World.block_lt_of_cell? w _ hx723_1)).trans hx723_1; replace hx723_2 := (HB.out.cell (World.block_lt_of_cell? w _ hx723_2)).trans hx723_2; replace p723 := eq_true p723; replace q723 := eq_true q723))
           go_ret
           exact ⟨by first | rfl | (simp [errW_none, errW_some] <;> rfl) | (simp [*, errW_none, errW_some] <;> rfl), by repeat (first | (with_reducible first | exact HB.out | apply below_alloc | apply pw_below_drewN | apply below_drew1) | exact HB.out)⟩
          ·
           rw [if_neg c10] at H; have c10b0 : decide (4000 < ((x3_1.size : Int) + 1 + (((rd_T73 l0 x4_1).f1).size : Int))) = false := decide_eq_false c10; clear c10; have H' := Aside0.mk H; clear H; have p721 : 0 ≤ (x4_1 : Int) := of_decide_eq_true (by first | (with_reducible assumption) | assumption); have q721 : x4_1 < (l0.length : Int) := of_decide_eq_true (by first | (with_reducible assumption) | assumption); obtain ⟨ad721, e721, hx721_0, hx721_1, hx721_2⟩ := at_T73 HR0.out x4_1 p721 q721; cases e721; replace hx721_0 := (HB.out.cell (World.block_lt_of_cell? w _ hx721_0)).trans hx721_0; replace hx721_1 := (HB.out.cell (World.block_lt_of_cell? w _ hx721_1)).trans hx721_1; replace hx721_2 := (HB.out.cell (World.block_lt_of_cell? w _ hx721_2)).trans hx721_2; replace p721 := eq_true p721; replace q721 := eq_true q721
           go_wp2_with (first | ((with_reducible refine gate_callee (f := 82) rfl ?_); refine goesL_ (some 18) rfl rfl Tryd.func82 (by kernel_rfl) rfl #[.agg #[.int .i64 ((rd_T73 l0 x4_1).f0), .string ((rd_T73 l0 x4_1).f1), .int .i64 ((rd_T73 l0 x4_1).f2)]] rfl (by (try simp only [List.map_toArray, List.map_cons, List.map_nil]); first | done | rfl | (simp only [List.length_drop, List.length_take]; rfl)) ?_; (with_reducible refine (spec_WordOk.calls k1 ((rd_T73 l0 x4_1).f0) ((rd_T73 l0 x4_1).f1) ((rd_T73 l0 x4_1).f2) true _ A5.out).mono ?_); rintro e w12 ⟨rfl, hb⟩; refine ⟨_, rfl, ?_⟩; have n0_ := Aside0.mk (below_step (by repeat (first | (with_reducible first | exact HB.out | apply below_alloc | apply pw_below_drewN | apply below_drew1) | exact HB.out)) hb); clear HB; have HB := n0_; clear n0_; (try clear hb); (try clear hb2); (try clear hk); (try clear hi); have p723 : 0 ≤ (x4_1 : Int) := of_decide_eq_true (by first | (with_reducible assumption) | assumption); have q723 : x4_1 < (l0.length : Int) := of_decide_eq_true (by first | (with_reducible assumption) | assumption); obtain ⟨ad723, e723, hx723_0, hx723_1, hx723_2⟩ := at_T73 HR0.out x4_1 p723 q723; obtain rfl : ad721 = ad723 := (by injection e723); replace hx723_0 := (HB.out.cell (World.block_lt_of_cell? w _ hx723_0)).trans hx723_0; replace hx723_1 := (HB.out.cell (World.block_lt_of_cell? w _ hx723_1)).trans hx723_1; replace hx723_2 := (HB.out.cell (World.block_lt_of_cell? w _ hx723_2)).trans hx723_2; replace p723 := eq_true p723; replace q723 := eq_true q723))
           go_roundg k1
           case measure => have := HK1.out; omega
           case rel => exact ⟨((x3_1 ++ (⟨#[32]⟩ : ByteArray)) ++ ((rd_T73 l0 x4_1).f1)), (wrap64 (x4_1 + 1)), (by first | rfl | (simp; done) | (simp [*]; done)), (by first | rfl | (simp; done) | (simp [*]; done)), H', ⟨by have := HK1.out; omega⟩, ⟨by repeat (first | (with_reducible first | exact HB.out | apply below_alloc | apply pw_below_drewN | apply below_drew1) | exact HB.out)⟩⟩
         ·
          rw [if_neg c9] at H; exact absurd H (by simp)
        ·
         rw [if_neg c8] at H; exact absurd H (by simp)
       ·
        rw [if_neg c7] at H; have c7b0 : decide (0 < x4_1) = false := decide_eq_false c7; clear c7
        by_cases c13 : x3_1.size + ((rd_T73 l0 x4_1).f1).size ≤ 9223372036854775807
        ·
         rw [if_pos c13] at H; have c13b0 := eq_true c13; have c13b1 : decide (x3_1.size + ((rd_T73 l0 x4_1).f1).size ≤ 9223372036854775807) = true := decide_eq_true c13
         try have c13b2 : (9223372036854775807 < x3_1.size + ((rd_T73 l0 x4_1).f1).size) = False := eq_false (Nat.not_lt.2 c13)
         by_cases c14 : ((x3_1.size : Int) + (((rd_T73 l0 x4_1).f1).size : Int)) > 4000
         ·
          rw [if_pos c14] at H; have c14b0 : decide (4000 < ((x3_1.size : Int) + (((rd_T73 l0 x4_1).f1).size : Int))) = true := decide_eq_true c14; clear c14; obtain rfl := Option.some.inj H; have p721 : 0 ≤ (x4_1 : Int) := of_decide_eq_true (by first | (with_reducible assumption) | assumption); have q721 : x4_1 < (l0.length : Int) := of_decide_eq_true (by first | (with_reducible assumption) | assumption); obtain ⟨ad721, e721, hx721_0, hx721_1, hx721_2⟩ := at_T73 HR0.out x4_1 p721 q721; cases e721; replace hx721_0 := (HB.out.cell (World.block_lt_of_cell? w _ hx721_0)).trans hx721_0; replace hx721_1 := (HB.out.cell (World.block_lt_of_cell? w _ hx721_1)).trans hx721_1; replace hx721_2 := (HB.out.cell (World.block_lt_of_cell? w _ hx721_2)).trans hx721_2; replace p721 := eq_true p721; replace q721 := eq_true q721
          go_wp2_with (first | ((with_reducible refine gate_callee (f := 82) rfl ?_); refine goesL_ (some 18) rfl rfl Tryd.func82 (by kernel_rfl) rfl #[.agg #[.int .i64 ((rd_T73 l0 x4_1).f0), .string ((rd_T73 l0 x4_1).f1), .int .i64 ((rd_T73 l0 x4_1).f2)]] rfl (by (try simp only [List.map_toArray, List.map_cons, List.map_nil]); first | done | rfl | (simp only [List.length_drop, List.length_take]; rfl)) ?_; (with_reducible refine (spec_WordOk.calls k1 ((rd_T73 l0 x4_1).f0) ((rd_T73 l0 x4_1).f1) ((rd_T73 l0 x4_1).f2) true _ A5.out).mono ?_); rintro e w15 ⟨rfl, hb⟩; refine ⟨_, rfl, ?_⟩; have n0_ := Aside0.mk (below_step (by repeat (first | (with_reducible first | exact HB.out | apply below_alloc | apply pw_below_drewN | apply below_drew1) | exact HB.out)) hb); clear HB; have HB := n0_; clear n0_; (try clear hb); (try clear hb2); (try clear hk); (try clear hi); have p724 : 0 ≤ (x4_1 : Int) := of_decide_eq_true (by first | (with_reducible assumption) | assumption); have q724 : x4_1 < (l0.length : Int) := of_decide_eq_true (by first | (with_reducible assumption) | assumption); obtain ⟨ad724, e724, hx724_0, hx724_1, hx724_2⟩ := at_T73 HR0.out x4_1 p724 q724; obtain rfl : ad721 = ad724 := (by injection e724); replace hx724_0 := (HB.out.cell (World.block_lt_of_cell? w _ hx724_0)).trans hx724_0; replace hx724_1 := (HB.out.cell (World.block_lt_of_cell? w _ hx724_1)).trans hx724_1; replace hx724_2 := (HB.out.cell (World.block_lt_of_cell? w _ hx724_2)).trans hx724_2; replace p724 := eq_true p724; replace q724 := eq_true q724))
          go_ret
          exact ⟨by first | rfl | (simp [errW_none, errW_some] <;> rfl) | (simp [*, errW_none, errW_some] <;> rfl), by repeat (first | (with_reducible first | exact HB.out | apply below_alloc | apply pw_below_drewN | apply below_drew1) | exact HB.out)⟩
         ·
          rw [if_neg c14] at H; have c14b0 : decide (4000 < ((x3_1.size : Int) + (((rd_T73 l0 x4_1).f1).size : Int))) = false := decide_eq_false c14; clear c14; have H' := Aside0.mk H; clear H; have p721 : 0 ≤ (x4_1 : Int) := of_decide_eq_true (by first | (with_reducible assumption) | assumption); have q721 : x4_1 < (l0.length : Int) := of_decide_eq_true (by first | (with_reducible assumption) | assumption); obtain ⟨ad721, e721, hx721_0, hx721_1, hx721_2⟩ := at_T73 HR0.out x4_1 p721 q721; cases e721; replace hx721_0 := (HB.out.cell (World.block_lt_of_cell? w _ hx721_0)).trans hx721_0; replace hx721_1 := (HB.out.cell (World.block_lt_of_cell? w _ hx721_1)).trans hx721_1; replace hx721_2 := (HB.out.cell (World.block_lt_of_cell? w _ hx721_2)).trans hx721_2; replace p721 := eq_true p721; replace q721 := eq_true q721
          go_wp2_with (first | ((with_reducible refine gate_callee (f := 82) rfl ?_); refine goesL_ (some 18) rfl rfl Tryd.func82 (by kernel_rfl) rfl #[.agg #[.int .i64 ((rd_T73 l0 x4_1).f0), .string ((rd_T73 l0 x4_1).f1), .int .i64 ((rd_T73 l0 x4_1).f2)]] rfl (by (try simp only [List.map_toArray, List.map_cons, List.map_nil]); first | done | rfl | (simp only [List.length_drop, List.length_take]; rfl)) ?_; (with_reducible refine (spec_WordOk.calls k1 ((rd_T73 l0 x4_1).f0) ((rd_T73 l0 x4_1).f1) ((rd_T73 l0 x4_1).f2) true _ A5.out).mono ?_); rintro e w16 ⟨rfl, hb⟩; refine ⟨_, rfl, ?_⟩; have n0_ := Aside0.mk (below_step (by repeat (first | (with_reducible first | exact HB.out | apply below_alloc | apply pw_below_drewN | apply below_drew1) | exact HB.out)) hb); clear HB; have HB := n0_; clear n0_; (try clear hb); (try clear hb2); (try clear hk); (try clear hi); have p724 : 0 ≤ (x4_1 : Int) := of_decide_eq_true (by first | (with_reducible assumption) | assumption); have q724 : x4_1 < (l0.length : Int) := of_decide_eq_true (by first | (with_reducible assumption) | assumption); obtain ⟨ad724, e724, hx724_0, hx724_1, hx724_2⟩ := at_T73 HR0.out x4_1 p724 q724; obtain rfl : ad721 = ad724 := (by injection e724); replace hx724_0 := (HB.out.cell (World.block_lt_of_cell? w _ hx724_0)).trans hx724_0; replace hx724_1 := (HB.out.cell (World.block_lt_of_cell? w _ hx724_1)).trans hx724_1; replace hx724_2 := (HB.out.cell (World.block_lt_of_cell? w _ hx724_2)).trans hx724_2; replace p724 := eq_true p724; replace q724 := eq_true q724))
          go_roundg k1
          case measure => have := HK1.out; omega
          case rel => exact ⟨(x3_1 ++ ((rd_T73 l0 x4_1).f1)), (wrap64 (x4_1 + 1)), (by first | rfl | (simp; done) | (simp [*]; done)), (by first | rfl | (simp; done) | (simp [*]; done)), H', ⟨by have := HK1.out; omega⟩, ⟨by repeat (first | (with_reducible first | exact HB.out | apply below_alloc | apply pw_below_drewN | apply below_drew1) | exact HB.out)⟩⟩
        ·
         rw [if_neg c13] at H; exact absurd H (by simp)
      ·
       replace c6 := Bool.eq_false_iff.mpr c6; subst c6; have H1 : (some (⟨#[]⟩ : ByteArray)) = some r := by rw [if_neg (show ¬ (false = true) by decide)] at H; exact H
       clear H; have H := H1; clear H1; obtain rfl := Option.some.inj H; have p721 : 0 ≤ (x4_1 : Int) := of_decide_eq_true (by first | (with_reducible assumption) | assumption); have q721 : x4_1 < (l0.length : Int) := of_decide_eq_true (by first | (with_reducible assumption) | assumption); obtain ⟨ad721, e721, hx721_0, hx721_1, hx721_2⟩ := at_T73 HR0.out x4_1 p721 q721; cases e721; replace hx721_0 := (HB.out.cell (World.block_lt_of_cell? w _ hx721_0)).trans hx721_0; replace hx721_1 := (HB.out.cell (World.block_lt_of_cell? w _ hx721_1)).trans hx721_1; replace hx721_2 := (HB.out.cell (World.block_lt_of_cell? w _ hx721_2)).trans hx721_2; replace p721 := eq_true p721; replace q721 := eq_true q721
       go_wp2_with (first | ((with_reducible refine gate_callee (f := 82) rfl ?_); refine goesL_ (some 18) rfl rfl Tryd.func82 (by kernel_rfl) rfl #[.agg #[.int .i64 ((rd_T73 l0 x4_1).f0), .string ((rd_T73 l0 x4_1).f1), .int .i64 ((rd_T73 l0 x4_1).f2)]] rfl (by (try simp only [List.map_toArray, List.map_cons, List.map_nil]); first | done | rfl | (simp only [List.length_drop, List.length_take]; rfl)) ?_; (with_reducible refine (spec_WordOk.calls k1 ((rd_T73 l0 x4_1).f0) ((rd_T73 l0 x4_1).f1) ((rd_T73 l0 x4_1).f2) false _ A5.out).mono ?_); rintro e w17 ⟨rfl, hb⟩; refine ⟨_, rfl, ?_⟩; have n0_ := Aside0.mk (below_step (by repeat (first | (with_reducible first | exact HB.out | apply below_alloc | apply pw_below_drewN | apply below_drew1) | exact HB.out)) hb); clear HB; have HB := n0_; clear n0_; (try clear hb); (try clear hb2); (try clear hk); (try clear hi)))
       go_ret
       exact ⟨by first | rfl | (simp [errW_none, errW_some] <;> rfl) | (simp [*, errW_none, errW_some] <;> rfl), by repeat (first | (with_reducible first | exact HB.out | apply below_alloc | apply pw_below_drewN | apply below_drew1) | exact HB.out)⟩
     ·
      rw [if_neg c4] at H; exact absurd H (by simp)
    ·
     rw [if_neg c3] at H; have c3b0 : decide (x4_1 < (l0.length : Int)) = false := decide_eq_false c3; clear c3; obtain rfl := Option.some.inj H
     go_wp2
     go_ret
     exact ⟨by first | rfl | (simp [errW_none, errW_some] <;> rfl) | (simp [*, errW_none, errW_some] <;> rfl), by repeat (first | (with_reducible first | exact HB.out | apply below_alloc | apply pw_below_drewN | apply below_drew1) | exact HB.out)⟩

end Go.Proofs.YtlkcbfonjcflgaaDoor.Q
