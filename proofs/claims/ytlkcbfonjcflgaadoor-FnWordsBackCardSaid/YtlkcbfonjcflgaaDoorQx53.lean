/- Functions of the translation as Lean functions, each with a proof that a call answers so; out of the seat, by this claim's own program prt.py. -/
import Derived.Test.YtlkcbfonjcflgaaDoorWRepsOne
import Derived.Test.YtlkcbfonjcflgaaDoorQx0
import Derived.Test.YtlkcbfonjcflgaaDoorQx6
import Derived.Test.YtlkcbfonjcflgaaDoorQx7
namespace Go.Proofs.YtlkcbfonjcflgaaDoor.Q
open Go.RowKit Go.Proofs.YtlkcbfonjcflgaaDoorW.PrintWords Go.Proofs.YtlkcbfonjcflgaaDoorW.PrintLast Go.Proofs.YtlkcbfonjcflgaaDoorW.PrintMore
attribute [local go_sem] max2_int min2_int max_two min_two max_three min_three max_four min_four   -- for this text's walks alone
set_option linter.unusedVariables false
set_option linter.unusedSimpArgs false

/-! ### impl_longest: function 83 -/
def impl_longest.l0 : Nat → ByteArray → Int → Option (Int)
 | 0, _, _ => none
 | k + 1, x0, x3 => if x3 < (x0.size : Int) then (if 0 ≤ x3 then ((impl_isLetter.f (bt x0 x3)).bind fun t725 => (if t725 = true then (impl_longest.l0 k x0 (wrap64 (x3 + 1))) else ((impl_isDigit.f (bt x0 x3)).bind fun t726 => (if t726 = true then (impl_longest.l0 k x0 (wrap64 (x3 + 1))) else (if x3 = 0 then (if (x0.size : Int) > 1 then (if 0 ≤ 2 then (if 2 ≤ (x0.size : Int) then ((impl_kindOf.f k (x0.extract 0 2)).bind fun t727 => (if t727 = 3 then (some 2) else (some (mx x3 1)))) else (none)) else (none)) else (some (mx x3 1))) else (some (mx x3 1))))))) else (none)) else (if x3 = 0 then (if (x0.size : Int) > 1 then (if 0 ≤ 2 then (if 2 ≤ (x0.size : Int) then ((impl_kindOf.f k (x0.extract 0 2)).bind fun t728 => (if t728 = 3 then (some 2) else (some (mx x3 1)))) else (none)) else (none)) else (some (mx x3 1))) else (some (mx x3 1)))
def impl_longest.f (k : Nat) (a0 : ByteArray) : Option (Int) := impl_longest.l0 k a0 0
theorem impl_longest.mono_l : ∀ k, (∀ y0 y1, LeO (impl_longest.l0 k y0 y1) (impl_longest.l0 (k + 1) y0 y1))
 | 0 => fun _ _ r h => by simp [impl_longest.l0] at h
 | k + 1 => by
  have ih0 := impl_longest.mono_l k
  ·
   intro y0 y1; unfold impl_longest.l0
   repeat' first
   | (with_reducible exact ih0 _ _)
   | (with_reducible exact impl_kindOf.mono _ _)
   | (with_reducible exact LeO.refl _)
   | (with_reducible exact LeO.none _)
   | (with_reducible refine LeO.ite ?_ ?_)
   | (with_reducible refine LeO.bind ?_ (fun _ => ?_))
   | exact ih0 _ _
   | exact impl_kindOf.mono _ _
   | exact LeO.none _
   | refine LeO.ite ?_ ?_
   | refine LeO.bind ?_ (fun _ => ?_)
theorem impl_longest.mono : ∀ a0 k, LeO (impl_longest.f k a0) (impl_longest.f (k + 1) a0) := by
 intro a0 k; have ih0 := impl_longest.mono_l k; unfold impl_longest.f
 repeat' first
   | (with_reducible exact ih0 _ _)
   | (with_reducible exact impl_kindOf.mono _ _)
   | (with_reducible exact LeO.refl _)
   | (with_reducible exact LeO.none _)
   | (with_reducible refine LeO.ite ?_ ?_)
   | (with_reducible refine LeO.bind ?_ (fun _ => ?_))
   | exact ih0 _ _
   | exact impl_kindOf.mono _ _
   | exact LeO.none _
   | refine LeO.ite ?_ ?_
   | refine LeO.bind ?_ (fun _ => ?_)
set_option maxHeartbeats 8000000 in
set_option maxRecDepth 100000 in
theorem impl_longest.calls (k : Nat) (a0 : ByteArray) (r : Int) (w : World) (hG0 : GL0 w) (hG1 : GL1 w) (hG2 : GL2 w) (hG3 : GL3 w) (h : impl_longest.f k a0 = some r) :
  Calls Tryd.prog 83 #[.string a0] w fun e w' => e = .returned (.int .i64 r) ∧ Below w.heap.size w w' := by
 have HB := Aside0.mk (Below.refl w.heap.size w); have HG0 := Aside0.mk hG0; clear hG0; have HG1 := Aside0.mk hG1; clear hG1; have HG2 := Aside0.mk hG2; clear hG2; have HG3 := Aside0.mk hG3; clear hG3; have H : (impl_longest.l0 k a0 0) = some r := h; clear h; have H' := Aside0.mk H; clear H
 go_enter Tryd.func83, Tryd.ntmps83
 go_wp2
 go_loopg [3] k (fun kq v3 w' => ∃ (x3_1 : Int), v3 = .int .i64 x3_1 ∧ Aside0 (impl_longest.l0 kq a0 x3_1 = some r) ∧ Aside0 (kq ≤ k) ∧ Aside0 (Below w.heap.size w w'))
 case atStart => exact ⟨(0), (by first | rfl | (simp; done) | (simp [*]; done)), H', ⟨Nat.le_refl _⟩, ⟨by repeat (first | (with_reducible first | exact HB.out | apply below_alloc | apply pw_below_drewN | apply below_drew1) | exact HB.out)⟩⟩
 case round =>
  clear H'; obtain ⟨x3_1, rfl, HA, HK1, HB⟩ := hrel; cases gk with
  | zero => exact absurd HA.out (by simp [impl_longest.l0])
  | succ k1 =>
   have H := HA.out; clear HA; simp only [impl_longest.l0] at H
   by_cases c2 : x3_1 < (a0.size : Int)
   ·
    rw [if_pos c2] at H; have c2b0 : decide (x3_1 < (a0.size : Int)) = true := decide_eq_true c2; clear c2
    by_cases c3 : 0 ≤ x3_1
    ·
     rw [if_pos c3] at H; have c3b0 : decide (0 ≤ x3_1) = true := decide_eq_true c3; clear c3; replace H := Option.bind_eq_some_iff.mp H; obtain ⟨t725, A50, H⟩ := H; replace H : (if t725 = true then (impl_longest.l0 k1 a0 (wrap64 (x3_1 + 1))) else ((impl_isDigit.f (bt a0 x3_1)).bind fun t726 => (if t726 = true then (impl_longest.l0 k1 a0 (wrap64 (x3_1 + 1))) else (if x3_1 = 0 then (if (a0.size : Int) > 1 then (if 0 ≤ 2 then (if 2 ≤ (a0.size : Int) then ((impl_kindOf.f k1 (a0.extract 0 2)).bind fun t727 => (if t727 = 3 then (some 2) else (some (mx x3_1 1)))) else (none)) else (none)) else (some (mx x3_1 1))) else (some (mx x3_1 1)))))) = some r := H; have A5 := Aside0.mk A50; clear A50
     by_cases c6 : t725 = true
     ·
      subst c6; have H1 : (impl_longest.l0 k1 a0 (wrap64 (x3_1 + 1))) = some r := by rw [if_pos rfl] at H; exact H
      clear H; have H := H1; clear H1; have H' := Aside0.mk H; clear H; have p4 : 0 ≤ (x3_1 : Int) := of_decide_eq_true (by first | (with_reducible assumption) | assumption); have q4 : x3_1 < (a0.size : Int) := of_decide_eq_true (by first | (with_reducible assumption) | assumption); have hx4 := bt_at a0 x3_1; replace p4 := eq_true p4; replace q4 := eq_true q4
      go_wp2_with (first | (go_at_call 122; (with_reducible refine (impl_isLetter.calls (bt a0 x3_1) true _ A5.out).mono ?_); rintro e w' ⟨rfl, ⟨nd, rfl⟩⟩))
      go_roundg k1
      case measure => have := HK1.out; omega
      case rel => exact ⟨(wrap64 (x3_1 + 1)), (by first | rfl | (simp; done) | (simp [*]; done)), H', ⟨by have := HK1.out; omega⟩, ⟨by repeat (first | (with_reducible first | exact HB.out | apply below_alloc | apply pw_below_drewN | apply below_drew1) | exact HB.out)⟩⟩
     ·
      replace c6 := Bool.eq_false_iff.mpr c6; subst c6; have H1 : ((impl_isDigit.f (bt a0 x3_1)).bind fun t726 => (if t726 = true then (impl_longest.l0 k1 a0 (wrap64 (x3_1 + 1))) else (if x3_1 = 0 then (if (a0.size : Int) > 1 then (if 0 ≤ 2 then (if 2 ≤ (a0.size : Int) then ((impl_kindOf.f k1 (a0.extract 0 2)).bind fun t727 => (if t727 = 3 then (some 2) else (some (mx x3_1 1)))) else (none)) else (none)) else (some (mx x3_1 1))) else (some (mx x3_1 1))))) = some r := by rw [if_neg (show ¬ (false = true) by decide)] at H; exact H
      clear H; have H := H1; clear H1; replace H := Option.bind_eq_some_iff.mp H; obtain ⟨t726, A80, H⟩ := H; replace H : (if t726 = true then (impl_longest.l0 k1 a0 (wrap64 (x3_1 + 1))) else (if x3_1 = 0 then (if (a0.size : Int) > 1 then (if 0 ≤ 2 then (if 2 ≤ (a0.size : Int) then ((impl_kindOf.f k1 (a0.extract 0 2)).bind fun t727 => (if t727 = 3 then (some 2) else (some (mx x3_1 1)))) else (none)) else (none)) else (some (mx x3_1 1))) else (some (mx x3_1 1)))) = some r := H; have A8 := Aside0.mk A80; clear A80
      by_cases c9 : t726 = true
      ·
       subst c9; have H1 : (impl_longest.l0 k1 a0 (wrap64 (x3_1 + 1))) = some r := by rw [if_pos rfl] at H; exact H
       clear H; have H := H1; clear H1; have H' := Aside0.mk H; clear H; have p4 : 0 ≤ (x3_1 : Int) := of_decide_eq_true (by first | (with_reducible assumption) | assumption); have q4 : x3_1 < (a0.size : Int) := of_decide_eq_true (by first | (with_reducible assumption) | assumption); have hx4 := bt_at a0 x3_1; replace p4 := eq_true p4; replace q4 := eq_true q4
       go_wp2_with (first | (go_at_call 122; (with_reducible refine (impl_isLetter.calls (bt a0 x3_1) false _ A5.out).mono ?_); rintro e w' ⟨rfl, ⟨nd, rfl⟩⟩; have p7 : 0 ≤ (x3_1 : Int) := of_decide_eq_true (by first | (with_reducible assumption) | assumption); have q7 : x3_1 < (a0.size : Int) := of_decide_eq_true (by first | (with_reducible assumption) | assumption); have hx7 := bt_at a0 x3_1; replace p7 := eq_true p7; replace q7 := eq_true q7) | (go_at_call 123; (with_reducible refine (impl_isDigit.calls (bt a0 x3_1) true _ A8.out).mono ?_); rintro e w' ⟨rfl, ⟨nd, rfl⟩⟩))
       go_roundg k1
       case measure => have := HK1.out; omega
       case rel => exact ⟨(wrap64 (x3_1 + 1)), (by first | rfl | (simp; done) | (simp [*]; done)), H', ⟨by have := HK1.out; omega⟩, ⟨by repeat (first | (with_reducible first | exact HB.out | apply below_alloc | apply pw_below_drewN | apply below_drew1) | exact HB.out)⟩⟩
      ·
       replace c9 := Bool.eq_false_iff.mpr c9; subst c9; have H1 : (if x3_1 = 0 then (if (a0.size : Int) > 1 then (if 0 ≤ 2 then (if 2 ≤ (a0.size : Int) then ((impl_kindOf.f k1 (a0.extract 0 2)).bind fun t727 => (if t727 = 3 then (some 2) else (some (mx x3_1 1)))) else (none)) else (none)) else (some (mx x3_1 1))) else (some (mx x3_1 1))) = some r := by rw [if_neg (show ¬ (false = true) by decide)] at H; exact H
       clear H; have H := H1; clear H1
       by_cases c10 : x3_1 = 0
       ·
        rw [if_pos c10] at H; have c10b0 : (x3_1 == 0) = true := beq_iff_eq.mpr c10; have c10b1 : (x3_1 != 0) = false := bne_eq_false_iff_eq.mpr c10; clear c10
        by_cases c11 : (a0.size : Int) > 1
        ·
         rw [if_pos c11] at H; have c11b0 : decide (1 < (a0.size : Int)) = true := decide_eq_true c11; have c11b1 : decide (1 < a0.size) = true := decide_eq_true (by omega); clear c11
         by_cases c12 : 0 ≤ 2
         ·
          rw [if_pos c12] at H; have c12b0 := eq_true c12; have c12b1 : decide (0 ≤ 2) = true := decide_eq_true c12; clear c12
          by_cases c13 : 2 ≤ (a0.size : Int)
          ·
           rw [if_pos c13] at H; have c13b0 := eq_true c13; have c13b1 : decide (2 ≤ (a0.size : Int)) = true := decide_eq_true c13; clear c13; replace H := Option.bind_eq_some_iff.mp H; obtain ⟨t727, A140, H⟩ := H; replace H : (if t727 = 3 then (some 2) else (some (mx x3_1 1))) = some r := H; have A14 := Aside0.mk A140; clear A140
           by_cases c15 : t727 = 3
           ·
            rw [if_pos c15] at H; have c15b0 : (t727 == 3) = true := beq_iff_eq.mpr c15; have c15b1 : (t727 != 3) = false := bne_eq_false_iff_eq.mpr c15; clear c15; obtain rfl := Option.some.inj H; have p4 : 0 ≤ (x3_1 : Int) := of_decide_eq_true (by first | (with_reducible assumption) | assumption); have q4 : x3_1 < (a0.size : Int) := of_decide_eq_true (by first | (with_reducible assumption) | assumption); have hx4 := bt_at a0 x3_1; replace p4 := eq_true p4; replace q4 := eq_true q4
            go_wp2_with (first | (go_at_call 122; (with_reducible refine (impl_isLetter.calls (bt a0 x3_1) false _ A5.out).mono ?_); rintro e w' ⟨rfl, ⟨nd, rfl⟩⟩; have p7 : 0 ≤ (x3_1 : Int) := of_decide_eq_true (by first | (with_reducible assumption) | assumption); have q7 : x3_1 < (a0.size : Int) := of_decide_eq_true (by first | (with_reducible assumption) | assumption); have hx7 := bt_at a0 x3_1; replace p7 := eq_true p7; replace q7 := eq_true q7) | (go_at_call 123; (with_reducible refine (impl_isDigit.calls (bt a0 x3_1) false _ A8.out).mono ?_); rintro e w' ⟨rfl, ⟨nd, rfl⟩⟩) | (go_at_call 84; (with_reducible refine (impl_kindOf.calls k1 (a0.extract 0 2) t727 _ ?side1 ?side2 ?side3 ?side4 A14.out).mono ?_); (case side1 => exact GL0.below HG0.out (by repeat (first | (with_reducible first | exact HB.out | apply below_alloc | apply pw_below_drewN | apply below_drew1) | exact HB.out))); (case side2 => exact GL1.below HG1.out (by repeat (first | (with_reducible first | exact HB.out | apply below_alloc | apply pw_below_drewN | apply below_drew1) | exact HB.out))); (case side3 => exact GL2.below HG2.out (by repeat (first | (with_reducible first | exact HB.out | apply below_alloc | apply pw_below_drewN | apply below_drew1) | exact HB.out))); (case side4 => exact GL3.below HG3.out (by repeat (first | (with_reducible first | exact HB.out | apply below_alloc | apply pw_below_drewN | apply below_drew1) | exact HB.out))); rintro e w16 ⟨rfl, hb⟩; have n0_ := Aside0.mk (below_step (by repeat (first | (with_reducible first | exact HB.out | apply below_alloc | apply pw_below_drewN | apply below_drew1) | exact HB.out)) hb); clear HB; have HB := n0_; clear n0_; (try clear hb); (try clear hb2); (try clear hk); (try clear hi)))
            go_ret
            exact ⟨by first | rfl | (simp [errW_none, errW_some] <;> rfl) | (simp [*, errW_none, errW_some] <;> rfl), by repeat (first | (with_reducible first | exact HB.out | apply below_alloc | apply pw_below_drewN | apply below_drew1) | exact HB.out)⟩
           ·
            rw [if_neg c15] at H; have c15b0 : (t727 == 3) = false := beq_eq_false_iff_ne.mpr c15; have c15b1 : (t727 != 3) = true := bne_iff_ne.mpr c15; obtain ⟨ji17, hji17⟩ : ∃ j_ : Int, (mx x3_1 1) = j_ := ⟨_, rfl⟩; replace H : (some ji17) = some r := by first | (rw [hji17] at H; exact H) | (simp only [hji17] at H ⊢; exact H)
            (try rw [hji17] at A5)
            (try rw [hji17] at A8)
            (try rw [hji17] at A14)
            have hji17_ : (if x3_1 < 1 then 1 else x3_1) = ji17 := hji17; obtain rfl := Option.some.inj H; have p4 : 0 ≤ (x3_1 : Int) := of_decide_eq_true (by first | (with_reducible assumption) | assumption); have q4 : x3_1 < (a0.size : Int) := of_decide_eq_true (by first | (with_reducible assumption) | assumption); have hx4 := bt_at a0 x3_1; replace p4 := eq_true p4; replace q4 := eq_true q4
            go_wp2_with (first | (go_at_call 122; (with_reducible refine (impl_isLetter.calls (bt a0 x3_1) false _ A5.out).mono ?_); rintro e w' ⟨rfl, ⟨nd, rfl⟩⟩; have p7 : 0 ≤ (x3_1 : Int) := of_decide_eq_true (by first | (with_reducible assumption) | assumption); have q7 : x3_1 < (a0.size : Int) := of_decide_eq_true (by first | (with_reducible assumption) | assumption); have hx7 := bt_at a0 x3_1; replace p7 := eq_true p7; replace q7 := eq_true q7) | (go_at_call 123; (with_reducible refine (impl_isDigit.calls (bt a0 x3_1) false _ A8.out).mono ?_); rintro e w' ⟨rfl, ⟨nd, rfl⟩⟩) | (go_at_call 84; (with_reducible refine (impl_kindOf.calls k1 (a0.extract 0 2) t727 _ ?side1 ?side2 ?side3 ?side4 A14.out).mono ?_); (case side1 => exact GL0.below HG0.out (by repeat (first | (with_reducible first | exact HB.out | apply below_alloc | apply pw_below_drewN | apply below_drew1) | exact HB.out))); (case side2 => exact GL1.below HG1.out (by repeat (first | (with_reducible first | exact HB.out | apply below_alloc | apply pw_below_drewN | apply below_drew1) | exact HB.out))); (case side3 => exact GL2.below HG2.out (by repeat (first | (with_reducible first | exact HB.out | apply below_alloc | apply pw_below_drewN | apply below_drew1) | exact HB.out))); (case side4 => exact GL3.below HG3.out (by repeat (first | (with_reducible first | exact HB.out | apply below_alloc | apply pw_below_drewN | apply below_drew1) | exact HB.out))); rintro e w18 ⟨rfl, hb⟩; have n0_ := Aside0.mk (below_step (by repeat (first | (with_reducible first | exact HB.out | apply below_alloc | apply pw_below_drewN | apply below_drew1) | exact HB.out)) hb); clear HB; have HB := n0_; clear n0_; (try clear hb); (try clear hb2); (try clear hk); (try clear hi)))
            go_ret
            exact ⟨by first | rfl | (simp [errW_none, errW_some] <;> rfl) | (simp only [← hji17]; first | rfl | (simp [errW_none, errW_some] <;> rfl)) | (simp [*, errW_none, errW_some] <;> rfl), by repeat (first | (with_reducible first | exact HB.out | apply below_alloc | apply pw_below_drewN | apply below_drew1) | exact HB.out)⟩
          ·
           rw [if_neg c13] at H; exact absurd H (by simp)
         ·
          rw [if_neg c12] at H; exact absurd H (by simp)
        ·
         rw [if_neg c11] at H; have c11b0 : decide (1 < (a0.size : Int)) = false := decide_eq_false c11; have c11b1 : decide (1 < a0.size) = false := decide_eq_false (by omega); clear c11; obtain ⟨ji19, hji19⟩ : ∃ j_ : Int, (mx x3_1 1) = j_ := ⟨_, rfl⟩; replace H : (some ji19) = some r := by first | (rw [hji19] at H; exact H) | (simp only [hji19] at H ⊢; exact H)
         (try rw [hji19] at A5)
         (try rw [hji19] at A8)
         have hji19_ : (if x3_1 < 1 then 1 else x3_1) = ji19 := hji19; obtain rfl := Option.some.inj H; have p4 : 0 ≤ (x3_1 : Int) := of_decide_eq_true (by first | (with_reducible assumption) | assumption); have q4 : x3_1 < (a0.size : Int) := of_decide_eq_true (by first | (with_reducible assumption) | assumption); have hx4 := bt_at a0 x3_1; replace p4 := eq_true p4; replace q4 := eq_true q4
         go_wp2_with (first | (go_at_call 122; (with_reducible refine (impl_isLetter.calls (bt a0 x3_1) false _ A5.out).mono ?_); rintro e w' ⟨rfl, ⟨nd, rfl⟩⟩; have p7 : 0 ≤ (x3_1 : Int) := of_decide_eq_true (by first | (with_reducible assumption) | assumption); have q7 : x3_1 < (a0.size : Int) := of_decide_eq_true (by first | (with_reducible assumption) | assumption); have hx7 := bt_at a0 x3_1; replace p7 := eq_true p7; replace q7 := eq_true q7) | (go_at_call 123; (with_reducible refine (impl_isDigit.calls (bt a0 x3_1) false _ A8.out).mono ?_); rintro e w' ⟨rfl, ⟨nd, rfl⟩⟩))
         go_ret
         exact ⟨by first | rfl | (simp [errW_none, errW_some] <;> rfl) | (simp only [← hji19]; first | rfl | (simp [errW_none, errW_some] <;> rfl)) | (simp [*, errW_none, errW_some] <;> rfl), by repeat (first | (with_reducible first | exact HB.out | apply below_alloc | apply pw_below_drewN | apply below_drew1) | exact HB.out)⟩
       ·
        rw [if_neg c10] at H; have c10b0 : (x3_1 == 0) = false := beq_eq_false_iff_ne.mpr c10; have c10b1 : (x3_1 != 0) = true := bne_iff_ne.mpr c10; obtain ⟨ji20, hji20⟩ : ∃ j_ : Int, (mx x3_1 1) = j_ := ⟨_, rfl⟩; replace H : (some ji20) = some r := by first | (rw [hji20] at H; exact H) | (simp only [hji20] at H ⊢; exact H)
        (try rw [hji20] at A5)
        (try rw [hji20] at A8)
        have hji20_ : (if x3_1 < 1 then 1 else x3_1) = ji20 := hji20; obtain rfl := Option.some.inj H; have p4 : 0 ≤ (x3_1 : Int) := of_decide_eq_true (by first | (with_reducible assumption) | assumption); have q4 : x3_1 < (a0.size : Int) := of_decide_eq_true (by first | (with_reducible assumption) | assumption); have hx4 := bt_at a0 x3_1; replace p4 := eq_true p4; replace q4 := eq_true q4
        go_wp2_with (first | (go_at_call 122; (with_reducible refine (impl_isLetter.calls (bt a0 x3_1) false _ A5.out).mono ?_); rintro e w' ⟨rfl, ⟨nd, rfl⟩⟩; have p7 : 0 ≤ (x3_1 : Int) := of_decide_eq_true (by first | (with_reducible assumption) | assumption); have q7 : x3_1 < (a0.size : Int) := of_decide_eq_true (by first | (with_reducible assumption) | assumption); have hx7 := bt_at a0 x3_1; replace p7 := eq_true p7; replace q7 := eq_true q7) | (go_at_call 123; (with_reducible refine (impl_isDigit.calls (bt a0 x3_1) false _ A8.out).mono ?_); rintro e w' ⟨rfl, ⟨nd, rfl⟩⟩))
        go_ret
        exact ⟨by first | rfl | (simp [errW_none, errW_some] <;> rfl) | (simp only [← hji20]; first | rfl | (simp [errW_none, errW_some] <;> rfl)) | (simp [*, errW_none, errW_some] <;> rfl), by repeat (first | (with_reducible first | exact HB.out | apply below_alloc | apply pw_below_drewN | apply below_drew1) | exact HB.out)⟩
    ·
     rw [if_neg c3] at H; exact absurd H (by simp)
   ·
    rw [if_neg c2] at H; have c2b0 : decide (x3_1 < (a0.size : Int)) = false := decide_eq_false c2; clear c2
    by_cases c21 : x3_1 = 0
    ·
     rw [if_pos c21] at H; have c21b0 : (x3_1 == 0) = true := beq_iff_eq.mpr c21; have c21b1 : (x3_1 != 0) = false := bne_eq_false_iff_eq.mpr c21; clear c21
     by_cases c22 : (a0.size : Int) > 1
     ·
      rw [if_pos c22] at H; have c22b0 : decide (1 < (a0.size : Int)) = true := decide_eq_true c22; have c22b1 : decide (1 < a0.size) = true := decide_eq_true (by omega); clear c22
      by_cases c23 : 0 ≤ 2
      ·
       rw [if_pos c23] at H; have c23b0 := eq_true c23; have c23b1 : decide (0 ≤ 2) = true := decide_eq_true c23; clear c23
       by_cases c24 : 2 ≤ (a0.size : Int)
       ·
        rw [if_pos c24] at H; have c24b0 := eq_true c24; have c24b1 : decide (2 ≤ (a0.size : Int)) = true := decide_eq_true c24; clear c24; replace H := Option.bind_eq_some_iff.mp H; obtain ⟨t728, A250, H⟩ := H; replace H : (if t728 = 3 then (some 2) else (some (mx x3_1 1))) = some r := H; have A25 := Aside0.mk A250; clear A250
        by_cases c26 : t728 = 3
        ·
         rw [if_pos c26] at H; have c26b0 : (t728 == 3) = true := beq_iff_eq.mpr c26; have c26b1 : (t728 != 3) = false := bne_eq_false_iff_eq.mpr c26; clear c26; obtain rfl := Option.some.inj H
         go_wp2_with (first | (go_at_call 84; (with_reducible refine (impl_kindOf.calls k1 (a0.extract 0 2) t728 _ ?side1 ?side2 ?side3 ?side4 A25.out).mono ?_); (case side1 => exact GL0.below HG0.out (by repeat (first | (with_reducible first | exact HB.out | apply below_alloc | apply pw_below_drewN | apply below_drew1) | exact HB.out))); (case side2 => exact GL1.below HG1.out (by repeat (first | (with_reducible first | exact HB.out | apply below_alloc | apply pw_below_drewN | apply below_drew1) | exact HB.out))); (case side3 => exact GL2.below HG2.out (by repeat (first | (with_reducible first | exact HB.out | apply below_alloc | apply pw_below_drewN | apply below_drew1) | exact HB.out))); (case side4 => exact GL3.below HG3.out (by repeat (first | (with_reducible first | exact HB.out | apply below_alloc | apply pw_below_drewN | apply below_drew1) | exact HB.out))); rintro e w27 ⟨rfl, hb⟩; have n0_ := Aside0.mk (below_step (by repeat (first | (with_reducible first | exact HB.out | apply below_alloc | apply pw_below_drewN | apply below_drew1) | exact HB.out)) hb); clear HB; have HB := n0_; clear n0_; (try clear hb); (try clear hb2); (try clear hk); (try clear hi)))
         go_ret
         exact ⟨by first | rfl | (simp [errW_none, errW_some] <;> rfl) | (simp [*, errW_none, errW_some] <;> rfl), by repeat (first | (with_reducible first | exact HB.out | apply below_alloc | apply pw_below_drewN | apply below_drew1) | exact HB.out)⟩
        ·
         rw [if_neg c26] at H; have c26b0 : (t728 == 3) = false := beq_eq_false_iff_ne.mpr c26; have c26b1 : (t728 != 3) = true := bne_iff_ne.mpr c26; obtain ⟨ji28, hji28⟩ : ∃ j_ : Int, (mx x3_1 1) = j_ := ⟨_, rfl⟩; replace H : (some ji28) = some r := by first | (rw [hji28] at H; exact H) | (simp only [hji28] at H ⊢; exact H)
         (try rw [hji28] at A25)
         have hji28_ : (if x3_1 < 1 then 1 else x3_1) = ji28 := hji28; obtain rfl := Option.some.inj H
         go_wp2_with (first | (go_at_call 84; (with_reducible refine (impl_kindOf.calls k1 (a0.extract 0 2) t728 _ ?side1 ?side2 ?side3 ?side4 A25.out).mono ?_); (case side1 => exact GL0.below HG0.out (by repeat (first | (with_reducible first | exact HB.out | apply below_alloc | apply pw_below_drewN | apply below_drew1) | exact HB.out))); (case side2 => exact GL1.below HG1.out (by repeat (first | (with_reducible first | exact HB.out | apply below_alloc | apply pw_below_drewN | apply below_drew1) | exact HB.out))); (case side3 => exact GL2.below HG2.out (by repeat (first | (with_reducible first | exact HB.out | apply below_alloc | apply pw_below_drewN | apply below_drew1) | exact HB.out))); (case side4 => exact GL3.below HG3.out (by repeat (first | (with_reducible first | exact HB.out | apply below_alloc | apply pw_below_drewN | apply below_drew1) | exact HB.out))); rintro e w29 ⟨rfl, hb⟩; have n0_ := Aside0.mk (below_step (by repeat (first | (with_reducible first | exact HB.out | apply below_alloc | apply pw_below_drewN | apply below_drew1) | exact HB.out)) hb); clear HB; have HB := n0_; clear n0_; (try clear hb); (try clear hb2); (try clear hk); (try clear hi)))
         go_ret
         exact ⟨by first | rfl | (simp [errW_none, errW_some] <;> rfl) | (simp only [← hji28]; first | rfl | (simp [errW_none, errW_some] <;> rfl)) | (simp [*, errW_none, errW_some] <;> rfl), by repeat (first | (with_reducible first | exact HB.out | apply below_alloc | apply pw_below_drewN | apply below_drew1) | exact HB.out)⟩
       ·
        rw [if_neg c24] at H; exact absurd H (by simp)
      ·
       rw [if_neg c23] at H; exact absurd H (by simp)
     ·
      rw [if_neg c22] at H; have c22b0 : decide (1 < (a0.size : Int)) = false := decide_eq_false c22; have c22b1 : decide (1 < a0.size) = false := decide_eq_false (by omega); clear c22; obtain ⟨ji30, hji30⟩ : ∃ j_ : Int, (mx x3_1 1) = j_ := ⟨_, rfl⟩; replace H : (some ji30) = some r := by first | (rw [hji30] at H; exact H) | (simp only [hji30] at H ⊢; exact H)
      have hji30_ : (if x3_1 < 1 then 1 else x3_1) = ji30 := hji30; obtain rfl := Option.some.inj H
      go_wp2
      go_ret
      exact ⟨by first | rfl | (simp [errW_none, errW_some] <;> rfl) | (simp only [← hji30]; first | rfl | (simp [errW_none, errW_some] <;> rfl)) | (simp [*, errW_none, errW_some] <;> rfl), by repeat (first | (with_reducible first | exact HB.out | apply below_alloc | apply pw_below_drewN | apply below_drew1) | exact HB.out)⟩
    ·
     rw [if_neg c21] at H; have c21b0 : (x3_1 == 0) = false := beq_eq_false_iff_ne.mpr c21; have c21b1 : (x3_1 != 0) = true := bne_iff_ne.mpr c21; obtain ⟨ji31, hji31⟩ : ∃ j_ : Int, (mx x3_1 1) = j_ := ⟨_, rfl⟩; replace H : (some ji31) = some r := by first | (rw [hji31] at H; exact H) | (simp only [hji31] at H ⊢; exact H)
     have hji31_ : (if x3_1 < 1 then 1 else x3_1) = ji31 := hji31; obtain rfl := Option.some.inj H
     go_wp2
     go_ret
     exact ⟨by first | rfl | (simp [errW_none, errW_some] <;> rfl) | (simp only [← hji31]; first | rfl | (simp [errW_none, errW_some] <;> rfl)) | (simp [*, errW_none, errW_some] <;> rfl), by repeat (first | (with_reducible first | exact HB.out | apply below_alloc | apply pw_below_drewN | apply below_drew1) | exact HB.out)⟩

end Go.Proofs.YtlkcbfonjcflgaaDoor.Q
