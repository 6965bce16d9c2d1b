/- Functions of the translation as Lean functions, each with a proof that a call answers so; out of the seat, by this claim's own program prt.py. -/
import Derived.Test.YtmkppdeoepfpoaaDoorWRepsOne
import Derived.Test.YtmkppdeoepfpoaaDoorQx0
namespace Go.Proofs.YtmkppdeoepfpoaaDoor.Q
open Go.RowKit Go.Proofs.YtmkppdeoepfpoaaDoorW.PrintWords Go.Proofs.YtmkppdeoepfpoaaDoorW.PrintLast Go.Proofs.YtmkppdeoepfpoaaDoorW.PrintMore
attribute [local go_sem] max2_int min2_int max_two min_two max_three min_three max_four min_four   -- for this text's walks alone
set_option linter.unusedVariables false
set_option linter.unusedSimpArgs false

/-! ### spec_l02Shape: function 62 -/
mutual
def spec_l02Shape.j0 : Nat → Int → Bool → Option (Int × Bool × Bool)
 | 0, _, _ => none
 | k + 1, x5, x6 => if x6 = true then (some (0, false, true)) else (if x5 = 2 then (spec_l02Shape.j1 k x5 (x5 == 2)) else (if x5 = 4 then (spec_l02Shape.j1 k x5 (x5 == 4)) else (if x5 = 23 then (spec_l02Shape.j1 k x5 (x5 == 23)) else (if x5 = 31 then (spec_l02Shape.j1 k x5 (x5 == 31)) else (spec_l02Shape.j1 k x5 (x5 == 32))))))
def spec_l02Shape.j1 : Nat → Int → Bool → Option (Int × Bool × Bool)
 | 0, _, _ => none
 | k + 1, x5, x10 => if x10 = true then (some (0, true, true)) else (if x5 = 3 then (spec_l02Shape.j2 k x5 (x5 == 3)) else (spec_l02Shape.j2 k x5 (x5 == 21)))
def spec_l02Shape.j2 : Nat → Int → Bool → Option (Int × Bool × Bool)
 | 0, _, _ => none
 | k + 1, x5, x16 => if x16 = true then (some (1, true, true)) else (if x5 = 5 then (spec_l02Shape.j3 k x5 (x5 == 5)) else (spec_l02Shape.j3 k x5 (x5 == 27)))
def spec_l02Shape.j3 : Nat → Int → Bool → Option (Int × Bool × Bool)
 | 0, _, _ => none
 | k + 1, x5, x19 => if x19 = true then (some (1, false, true)) else (if x5 = 6 then (spec_l02Shape.j4 k x5 (x5 == 6)) else (if x5 = 7 then (spec_l02Shape.j4 k x5 (x5 == 7)) else (if x5 = 8 then (spec_l02Shape.j4 k x5 (x5 == 8)) else (if x5 = 11 then (spec_l02Shape.j4 k x5 (x5 == 11)) else (if x5 = 12 then (spec_l02Shape.j4 k x5 (x5 == 12)) else (if x5 = 13 then (spec_l02Shape.j4 k x5 (x5 == 13)) else (if x5 = 14 then (spec_l02Shape.j4 k x5 (x5 == 14)) else (if x5 = 15 then (spec_l02Shape.j4 k x5 (x5 == 15)) else (if x5 = 16 then (spec_l02Shape.j4 k x5 (x5 == 16)) else (spec_l02Shape.j4 k x5 (x5 == 25)))))))))))
def spec_l02Shape.j4 : Nat → Int → Bool → Option (Int × Bool × Bool)
 | 0, _, _ => none
 | k + 1, x5, x22 => if x22 = true then (some (2, false, true)) else (if x5 = 22 then (some (2, true, true)) else (if x5 = 24 then (some (3, false, true)) else (if x5 = 26 then (some (3, true, true)) else (if x5 = 30 then (some ((-1), false, true)) else (if x5 = 40 then (some ((-1), false, true)) else (some (0, false, false)))))))
end
def spec_l02Shape.f (k : Nat) (a0 : Int) : Option (Int × Bool × Bool) := if a0 = 1 then (spec_l02Shape.j0 k a0 (a0 == 1)) else (if a0 = 28 then (spec_l02Shape.j0 k a0 (a0 == 28)) else (spec_l02Shape.j0 k a0 (a0 == 29)))
theorem spec_l02Shape.mono_l : ∀ k, (∀ y0 y1, LeO (spec_l02Shape.j0 k y0 y1) (spec_l02Shape.j0 (k + 1) y0 y1)) ∧ (∀ y0 y1, LeO (spec_l02Shape.j1 k y0 y1) (spec_l02Shape.j1 (k + 1) y0 y1)) ∧ (∀ y0 y1, LeO (spec_l02Shape.j2 k y0 y1) (spec_l02Shape.j2 (k + 1) y0 y1)) ∧ (∀ y0 y1, LeO (spec_l02Shape.j3 k y0 y1) (spec_l02Shape.j3 (k + 1) y0 y1)) ∧ (∀ y0 y1, LeO (spec_l02Shape.j4 k y0 y1) (spec_l02Shape.j4 (k + 1) y0 y1))
 | 0 => ⟨fun _ _ r h => by simp [spec_l02Shape.j0] at h, fun _ _ r h => by simp [spec_l02Shape.j1] at h, fun _ _ r h => by simp [spec_l02Shape.j2] at h, fun _ _ r h => by simp [spec_l02Shape.j3] at h, fun _ _ r h => by simp [spec_l02Shape.j4] at h⟩
 | k + 1 => by
  obtain ⟨ih0, ih1, ih2, ih3, ih4⟩ := spec_l02Shape.mono_l k; refine ⟨?_, ?_, ?_, ?_, ?_⟩
  ·
   intro y0 y1; unfold spec_l02Shape.j0
   repeat' first
   | (with_reducible exact ih0 _ _)
   | (with_reducible exact ih1 _ _)
   | (with_reducible exact ih2 _ _)
   | (with_reducible exact ih3 _ _)
   | (with_reducible exact ih4 _ _)
   | (with_reducible exact LeO.refl _)
   | (with_reducible exact LeO.none _)
   | (with_reducible refine LeO.ite ?_ ?_)
   | (with_reducible refine LeO.bind ?_ (fun _ => ?_))
   | exact ih0 _ _
   | exact ih1 _ _
   | exact ih2 _ _
   | exact ih3 _ _
   | exact ih4 _ _
   | exact LeO.none _
   | refine LeO.ite ?_ ?_
   | refine LeO.bind ?_ (fun _ => ?_)
  ·
   intro y0 y1; unfold spec_l02Shape.j1
   repeat' first
   | (with_reducible exact ih0 _ _)
   | (with_reducible exact ih1 _ _)
   | (with_reducible exact ih2 _ _)
   | (with_reducible exact ih3 _ _)
   | (with_reducible exact ih4 _ _)
   | (with_reducible exact LeO.refl _)
   | (with_reducible exact LeO.none _)
   | (with_reducible refine LeO.ite ?_ ?_)
   | (with_reducible refine LeO.bind ?_ (fun _ => ?_))
   | exact ih0 _ _
   | exact ih1 _ _
   | exact ih2 _ _
   | exact ih3 _ _
   | exact ih4 _ _
   | exact LeO.none _
   | refine LeO.ite ?_ ?_
   | refine LeO.bind ?_ (fun _ => ?_)
  ·
   intro y0 y1; unfold spec_l02Shape.j2
   repeat' first
   | (with_reducible exact ih0 _ _)
   | (with_reducible exact ih1 _ _)
   | (with_reducible exact ih2 _ _)
   | (with_reducible exact ih3 _ _)
   | (with_reducible exact ih4 _ _)
   | (with_reducible exact LeO.refl _)
   | (with_reducible exact LeO.none _)
   | (with_reducible refine LeO.ite ?_ ?_)
   | (with_reducible refine LeO.bind ?_ (fun _ => ?_))
   | exact ih0 _ _
   | exact ih1 _ _
   | exact ih2 _ _
   | exact ih3 _ _
   | exact ih4 _ _
   | exact LeO.none _
   | refine LeO.ite ?_ ?_
   | refine LeO.bind ?_ (fun _ => ?_)
  ·
   intro y0 y1; unfold spec_l02Shape.j3
   repeat' first
   | (with_reducible exact ih0 _ _)
   | (with_reducible exact ih1 _ _)
   | (with_reducible exact ih2 _ _)
   | (with_reducible exact ih3 _ _)
   | (with_reducible exact ih4 _ _)
   | (with_reducible exact LeO.refl _)
   | (with_reducible exact LeO.none _)
   | (with_reducible refine LeO.ite ?_ ?_)
   | (with_reducible refine LeO.bind ?_ (fun _ => ?_))
   | exact ih0 _ _
   | exact ih1 _ _
   | exact ih2 _ _
   | exact ih3 _ _
   | exact ih4 _ _
   | exact LeO.none _
   | refine LeO.ite ?_ ?_
   | refine LeO.bind ?_ (fun _ => ?_)
  ·
   intro y0 y1; unfold spec_l02Shape.j4
   repeat' first
   | (with_reducible exact ih0 _ _)
   | (with_reducible exact ih1 _ _)
   | (with_reducible exact ih2 _ _)
   | (with_reducible exact ih3 _ _)
   | (with_reducible exact ih4 _ _)
   | (with_reducible exact LeO.refl _)
   | (with_reducible exact LeO.none _)
   | (with_reducible refine LeO.ite ?_ ?_)
   | (with_reducible refine LeO.bind ?_ (fun _ => ?_))
   | exact ih0 _ _
   | exact ih1 _ _
   | exact ih2 _ _
   | exact ih3 _ _
   | exact ih4 _ _
   | exact LeO.none _
   | refine LeO.ite ?_ ?_
   | refine LeO.bind ?_ (fun _ => ?_)
theorem spec_l02Shape.mono : ∀ a0 k, LeO (spec_l02Shape.f k a0) (spec_l02Shape.f (k + 1) a0) := by
 intro a0 k; obtain ⟨ih0, ih1, ih2, ih3, ih4⟩ := spec_l02Shape.mono_l k; unfold spec_l02Shape.f
 repeat' first
   | (with_reducible exact ih0 _ _)
   | (with_reducible exact ih1 _ _)
   | (with_reducible exact ih2 _ _)
   | (with_reducible exact ih3 _ _)
   | (with_reducible exact ih4 _ _)
   | (with_reducible exact LeO.refl _)
   | (with_reducible exact LeO.none _)
   | (with_reducible refine LeO.ite ?_ ?_)
   | (with_reducible refine LeO.bind ?_ (fun _ => ?_))
   | exact ih0 _ _
   | exact ih1 _ _
   | exact ih2 _ _
   | exact ih3 _ _
   | exact ih4 _ _
   | exact LeO.none _
   | refine LeO.ite ?_ ?_
   | refine LeO.bind ?_ (fun _ => ?_)
set_option maxHeartbeats 8000000 in
set_option maxRecDepth 100000 in
theorem spec_l02Shape.calls (k : Nat) (a0 : Int) (r1 : Int) (r2 : Bool) (r3 : Bool) (w : World) (h : spec_l02Shape.f k a0 = some (r1, r2, r3)) :
  Calls Tryd.prog 62 #[.int .i64 a0] w fun e w' => e = .returned (.tuple #[.int .i64 r1, .bool r2, .bool r3]) ∧ Drawn0 w w' := by
 have H : (if a0 = 1 then (spec_l02Shape.j0 k a0 (a0 == 1)) else (if a0 = 28 then (spec_l02Shape.j0 k a0 (a0 == 28)) else (spec_l02Shape.j0 k a0 (a0 == 29)))) = some (r1, r2, r3) := h; clear h; have HC2 := Aside0.mk H; clear H
 go_enter Tryd.func62, Tryd.ntmps62
 go_upto_if 6 with (fail)
 go_cut [6] (fun v6 wc => ∃ (kq : Nat) (x6_1 : Bool), v6 = .bool x6_1 ∧ Aside0 (spec_l02Shape.j0 kq a0 x6_1 = some (r1, r2, r3)) ∧ Aside0 (kq ≤ k) ∧ Drawn0 w wc)
 case first =>
  have H := HC2.out; clear HC2
  by_cases c3 : a0 = 1
  ·
   rw [if_pos c3] at H; have c3b0 : (a0 == 1) = true := beq_iff_eq.mpr c3; have c3b1 : (a0 != 1) = false := bne_eq_false_iff_eq.mpr c3; clear c3
   (first | rw [c3b0] | (simp only [i64_w, i32_w]; rw [c3b0]) | skip)
   have H' := Aside0.mk H; clear H
   go_wp2
   go_meet
   case rel => exact ⟨_, ((a0 == 1)), (by first | rfl | (simp; done) | (simp [*]; done)), H', ⟨by first | omega | exact Nat.le_refl _⟩, by repeat (first | exact Drawn0.refl _ | apply Drawn0.step)⟩
  ·
   rw [if_neg c3] at H; have c3b0 : (a0 == 1) = false := beq_eq_false_iff_ne.mpr c3; have c3b1 : (a0 != 1) = true := bne_iff_ne.mpr c3
   (first | rw [c3b0] | (simp only [i64_w, i32_w]; rw [c3b0]) | skip)
   by_cases c4 : a0 = 28
   ·
    rw [if_pos c4] at H; have c4b0 : (a0 == 28) = true := beq_iff_eq.mpr c4; have c4b1 : (a0 != 28) = false := bne_eq_false_iff_eq.mpr c4; clear c4; have H' := Aside0.mk H; clear H
    go_wp2
    go_meet
    case rel => exact ⟨_, ((a0 == 28)), (by first | rfl | (simp; done) | (simp [*]; done)), H', ⟨by first | omega | exact Nat.le_refl _⟩, by repeat (first | exact Drawn0.refl _ | apply Drawn0.step)⟩
   ·
    rw [if_neg c4] at H; have c4b0 : (a0 == 28) = false := beq_eq_false_iff_ne.mpr c4; have c4b1 : (a0 != 28) = true := bne_iff_ne.mpr c4; have H' := Aside0.mk H; clear H
    go_wp2
    go_meet
    case rel => exact ⟨_, ((a0 == 29)), (by first | rfl | (simp; done) | (simp [*]; done)), H', ⟨by first | omega | exact Nat.le_refl _⟩, by repeat (first | exact Drawn0.refl _ | apply Drawn0.step)⟩
 case rest =>
  clear HC2
  try clear p2
  try clear c3
  try clear c3b0
  try clear c3b1
  try clear c4
  try clear c4b0
  try clear c4b1
  obtain ⟨kq, x6_1, rfl, HA, HJ1, ⟨mc1, rfl⟩⟩ := hcut; cases kq with
  | zero => exact absurd HA.out (by simp [spec_l02Shape.j0])
  | succ kj1 =>
   have H := HA.out; clear HA; simp only [spec_l02Shape.j0] at H
   by_cases c5 : x6_1 = true
   ·
    subst c5; have H1 : (some (0, false, true)) = some (r1, r2, r3) := by rw [if_pos rfl] at H; exact H
    clear H; have H := H1; clear H1; simp only [Option.some.injEq, Prod.mk.injEq] at H; obtain ⟨rfl, rfl, rfl⟩ := H
    go_wp2
    go_ret3
    exact ⟨by first | rfl | (simp; done) | (simp [*]; done), by repeat (first | exact Drawn0.refl _ | apply Drawn0.step)⟩
   ·
    replace c5 := Bool.eq_false_iff.mpr c5; subst c5; have H1 : (if a0 = 2 then (spec_l02Shape.j1 kj1 a0 (a0 == 2)) else (if a0 = 4 then (spec_l02Shape.j1 kj1 a0 (a0 == 4)) else (if a0 = 23 then (spec_l02Shape.j1 kj1 a0 (a0 == 23)) else (if a0 = 31 then (spec_l02Shape.j1 kj1 a0 (a0 == 31)) else (spec_l02Shape.j1 kj1 a0 (a0 == 32)))))) = some (r1, r2, r3) := by rw [if_neg (show ¬ (false = true) by decide)] at H; exact H
    clear H; have H := H1; clear H1; have HC6 := Aside0.mk H; clear H
    go_upto_if 10 with (fail)
    go_cut [10] (fun v10 wc => ∃ (kq : Nat) (x10_5 : Bool), v10 = .bool x10_5 ∧ Aside0 (spec_l02Shape.j1 kq a0 x10_5 = some (r1, r2, r3)) ∧ Aside0 (kq ≤ kj1) ∧ Drawn0 w wc)
    case first =>
     have H := HC6.out; clear HC6
     by_cases c7 : a0 = 2
     ·
      rw [if_pos c7] at H; have c7b0 : (a0 == 2) = true := beq_iff_eq.mpr c7; have c7b1 : (a0 != 2) = false := bne_eq_false_iff_eq.mpr c7; clear c7
      (first | rw [c7b0] | (simp only [i64_w, i32_w]; rw [c7b0]) | skip)
      have H' := Aside0.mk H; clear H
      go_wp2
      go_meet
      case rel => exact ⟨_, ((a0 == 2)), (by first | rfl | (simp; done) | (simp [*]; done)), H', ⟨by have := HJ1.out; first | omega | exact Nat.le_refl _⟩, by repeat (first | exact Drawn0.refl _ | apply Drawn0.step)⟩
     ·
      rw [if_neg c7] at H; have c7b0 : (a0 == 2) = false := beq_eq_false_iff_ne.mpr c7; have c7b1 : (a0 != 2) = true := bne_iff_ne.mpr c7
      (first | rw [c7b0] | (simp only [i64_w, i32_w]; rw [c7b0]) | skip)
      by_cases c8 : a0 = 4
      ·
       rw [if_pos c8] at H; have c8b0 : (a0 == 4) = true := beq_iff_eq.mpr c8; have c8b1 : (a0 != 4) = false := bne_eq_false_iff_eq.mpr c8; clear c8; have H' := Aside0.mk H; clear H
       go_wp2
       go_meet
       case rel => exact ⟨_, ((a0 == 4)), (by first | rfl | (simp; done) | (simp [*]; done)), H', ⟨by have := HJ1.out; first | omega | exact Nat.le_refl _⟩, by repeat (first | exact Drawn0.refl _ | apply Drawn0.step)⟩
      ·
       rw [if_neg c8] at H; have c8b0 : (a0 == 4) = false := beq_eq_false_iff_ne.mpr c8; have c8b1 : (a0 != 4) = true := bne_iff_ne.mpr c8
       by_cases c9 : a0 = 23
       ·
        rw [if_pos c9] at H; have c9b0 : (a0 == 23) = true := beq_iff_eq.mpr c9; have c9b1 : (a0 != 23) = false := bne_eq_false_iff_eq.mpr c9; clear c9; have H' := Aside0.mk H; clear H
        go_wp2
        go_meet
        case rel => exact ⟨_, ((a0 == 23)), (by first | rfl | (simp; done) | (simp [*]; done)), H', ⟨by have := HJ1.out; first | omega | exact Nat.le_refl _⟩, by repeat (first | exact Drawn0.refl _ | apply Drawn0.step)⟩
       ·
        rw [if_neg c9] at H; have c9b0 : (a0 == 23) = false := beq_eq_false_iff_ne.mpr c9; have c9b1 : (a0 != 23) = true := bne_iff_ne.mpr c9
        by_cases c10 : a0 = 31
        ·
         rw [if_pos c10] at H; have c10b0 : (a0 == 31) = true := beq_iff_eq.mpr c10; have c10b1 : (a0 != 31) = false := bne_eq_false_iff_eq.mpr c10; clear c10; have H' := Aside0.mk H; clear H
         go_wp2
         go_meet
         case rel => exact ⟨_, ((a0 == 31)), (by first | rfl | (simp; done) | (simp [*]; done)), H', ⟨by have := HJ1.out; first | omega | exact Nat.le_refl _⟩, by repeat (first | exact Drawn0.refl _ | apply Drawn0.step)⟩
        ·
         rw [if_neg c10] at H; have c10b0 : (a0 == 31) = false := beq_eq_false_iff_ne.mpr c10; have c10b1 : (a0 != 31) = true := bne_iff_ne.mpr c10; have H' := Aside0.mk H; clear H
         go_wp2
         go_meet
         case rel => exact ⟨_, ((a0 == 32)), (by first | rfl | (simp; done) | (simp [*]; done)), H', ⟨by have := HJ1.out; first | omega | exact Nat.le_refl _⟩, by repeat (first | exact Drawn0.refl _ | apply Drawn0.step)⟩
    case rest =>
     clear HC6
     try clear c1
     try clear p2
     try clear c3
     try clear c3b0
     try clear c3b1
     try clear c4
     try clear c4b0
     try clear c4b1
     try clear c5
     try clear c6
     try clear c7
     try clear c7b0
     try clear c7b1
     try clear c8
     try clear c8b0
     try clear c8b1
     try clear c9
     try clear c9b0
     try clear c9b1
     try clear c10
     try clear c10b0
     try clear c10b1
     try clear p2
     obtain ⟨kq, x10_5, rfl, HA, HJ5, ⟨mc5, rfl⟩⟩ := hcut; cases kq with
     | zero => exact absurd HA.out (by simp [spec_l02Shape.j1])
     | succ kj5 =>
      have H := HA.out; clear HA; simp only [spec_l02Shape.j1] at H
      by_cases c11 : x10_5 = true
      ·
       subst c11; have H1 : (some (0, true, true)) = some (r1, r2, r3) := by rw [if_pos rfl] at H; exact H
       clear H; have H := H1; clear H1; simp only [Option.some.injEq, Prod.mk.injEq] at H; obtain ⟨rfl, rfl, rfl⟩ := H
       go_wp2
       go_ret3
       exact ⟨by first | rfl | (simp; done) | (simp [*]; done), by repeat (first | exact Drawn0.refl _ | apply Drawn0.step)⟩
      ·
       replace c11 := Bool.eq_false_iff.mpr c11; subst c11; have H1 : (if a0 = 3 then (spec_l02Shape.j2 kj5 a0 (a0 == 3)) else (spec_l02Shape.j2 kj5 a0 (a0 == 21))) = some (r1, r2, r3) := by rw [if_neg (show ¬ (false = true) by decide)] at H; exact H
       clear H; have H := H1; clear H1; have HC12 := Aside0.mk H; clear H
       go_upto_if 16 with (fail)
       go_cut [16] (fun v16 wc => ∃ (kq : Nat) (x16_11 : Bool), v16 = .bool x16_11 ∧ Aside0 (spec_l02Shape.j2 kq a0 x16_11 = some (r1, r2, r3)) ∧ Aside0 (kq ≤ kj5) ∧ Drawn0 w wc)
       case first =>
        have H := HC12.out; clear HC12
        by_cases c13 : a0 = 3
        ·
         rw [if_pos c13] at H; have c13b0 : (a0 == 3) = true := beq_iff_eq.mpr c13; have c13b1 : (a0 != 3) = false := bne_eq_false_iff_eq.mpr c13; clear c13
         (first | rw [c13b0] | (simp only [i64_w, i32_w]; rw [c13b0]) | skip)
         have H' := Aside0.mk H; clear H
         go_wp2
         go_meet
         case rel => exact ⟨_, ((a0 == 3)), (by first | rfl | (simp; done) | (simp [*]; done)), H', ⟨by have := HJ1.out; have := HJ5.out; first | omega | exact Nat.le_refl _⟩, by repeat (first | exact Drawn0.refl _ | apply Drawn0.step)⟩
        ·
         rw [if_neg c13] at H; have c13b0 : (a0 == 3) = false := beq_eq_false_iff_ne.mpr c13; have c13b1 : (a0 != 3) = true := bne_iff_ne.mpr c13
         (first | rw [c13b0] | (simp only [i64_w, i32_w]; rw [c13b0]) | skip)
         have H' := Aside0.mk H; clear H
         go_wp2
         go_meet
         case rel => exact ⟨_, ((a0 == 21)), (by first | rfl | (simp; done) | (simp [*]; done)), H', ⟨by have := HJ1.out; have := HJ5.out; first | omega | exact Nat.le_refl _⟩, by repeat (first | exact Drawn0.refl _ | apply Drawn0.step)⟩
       case rest =>
        clear HC12
        try clear c1
        try clear p2
        try clear c3
        try clear c3b0
        try clear c3b1
        try clear c4
        try clear c4b0
        try clear c4b1
        try clear c5
        try clear c6
        try clear c7
        try clear c7b0
        try clear c7b1
        try clear c8
        try clear c8b0
        try clear c8b1
        try clear c9
        try clear c9b0
        try clear c9b1
        try clear c10
        try clear c10b0
        try clear c10b1
        try clear c11
        try clear c13
        try clear c13b0
        try clear c13b1
        try clear p2
        obtain ⟨kq, x16_11, rfl, HA, HJ11, ⟨mc11, rfl⟩⟩ := hcut; cases kq with
        | zero => exact absurd HA.out (by simp [spec_l02Shape.j2])
        | succ kj11 =>
         have H := HA.out; clear HA; simp only [spec_l02Shape.j2] at H
         by_cases c14 : x16_11 = true
         ·
          subst c14; have H1 : (some (1, true, true)) = some (r1, r2, r3) := by rw [if_pos rfl] at H; exact H
          clear H; have H := H1; clear H1; simp only [Option.some.injEq, Prod.mk.injEq] at H; obtain ⟨rfl, rfl, rfl⟩ := H
          go_wp2
          go_ret3
          exact ⟨by first | rfl | (simp; done) | (simp [*]; done), by repeat (first | exact Drawn0.refl _ | apply Drawn0.step)⟩
         ·
          replace c14 := Bool.eq_false_iff.mpr c14; subst c14; have H1 : (if a0 = 5 then (spec_l02Shape.j3 kj11 a0 (a0 == 5)) else (spec_l02Shape.j3 kj11 a0 (a0 == 27))) = some (r1, r2, r3) := by rw [if_neg (show ¬ (false = true) by decide)] at H; exact H
          clear H; have H := H1; clear H1; have HC15 := Aside0.mk H; clear H
          go_upto_if 19 with (fail)
          go_cut [19] (fun v19 wc => ∃ (kq : Nat) (x19_14 : Bool), v19 = .bool x19_14 ∧ Aside0 (spec_l02Shape.j3 kq a0 x19_14 = some (r1, r2, r3)) ∧ Aside0 (kq ≤ kj11) ∧ Drawn0 w wc)
          case first =>
           have H := HC15.out; clear HC15
           by_cases c16 : a0 = 5
           ·
            rw [if_pos c16] at H; have c16b0 : (a0 == 5) = true := beq_iff_eq.mpr c16; have c16b1 : (a0 != 5) = false := bne_eq_false_iff_eq.mpr c16; clear c16
            (first | rw [c16b0] | (simp only [i64_w, i32_w]; rw [c16b0]) | skip)
            have H' := Aside0.mk H; clear H
            go_wp2
            go_meet
            case rel => exact ⟨_, ((a0 == 5)), (by first | rfl | (simp; done) | (simp [*]; done)), H', ⟨by have := HJ1.out; have := HJ5.out; have := HJ11.out; first | omega | exact Nat.le_refl _⟩, by repeat (first | exact Drawn0.refl _ | apply Drawn0.step)⟩
           ·
            rw [if_neg c16] at H; have c16b0 : (a0 == 5) = false := beq_eq_false_iff_ne.mpr c16; have c16b1 : (a0 != 5) = true := bne_iff_ne.mpr c16
            (first | rw [c16b0] | (simp only [i64_w, i32_w]; rw [c16b0]) | skip)
            have H' := Aside0.mk H; clear H
            go_wp2
            go_meet
            case rel => exact ⟨_, ((a0 == 27)), (by first | rfl | (simp; done) | (simp [*]; done)), H', ⟨by have := HJ1.out; have := HJ5.out; have := HJ11.out; first | omega | exact Nat.le_refl _⟩, by repeat (first | exact Drawn0.refl _ | apply Drawn0.step)⟩
          case rest =>
           clear HC15
           try clear c1
           try clear p2
           try clear c3
           try clear c3b0
           try clear c3b1
           try clear c4
           try clear c4b0
           try clear c4b1
           try clear c5
           try clear c6
           try clear c7
           try clear c7b0
           try clear c7b1
           try clear c8
           try clear c8b0
           try clear c8b1
           try clear c9
           try clear c9b0
           try clear c9b1
           try clear c10
           try clear c10b0
           try clear c10b1
           try clear c11
           try clear c13
           try clear c13b0
           try clear c13b1
           try clear c14
           try clear c16
           try clear c16b0
           try clear c16b1
           try clear p2
           obtain ⟨kq, x19_14, rfl, HA, HJ14, ⟨mc14, rfl⟩⟩ := hcut; cases kq with
           | zero => exact absurd HA.out (by simp [spec_l02Shape.j3])
           | succ kj14 =>
            have H := HA.out; clear HA; simp only [spec_l02Shape.j3] at H
            by_cases c17 : x19_14 = true
            ·
             subst c17; have H1 : (some (1, false, true)) = some (r1, r2, r3) := by rw [if_pos rfl] at H; exact H
             clear H; have H := H1; clear H1; simp only [Option.some.injEq, Prod.mk.injEq] at H; obtain ⟨rfl, rfl, rfl⟩ := H
             go_wp2
             go_ret3
             exact ⟨by first | rfl | (simp; done) | (simp [*]; done), by repeat (first | exact Drawn0.refl _ | apply Drawn0.step)⟩
            ·
             replace c17 := Bool.eq_false_iff.mpr c17; subst c17; have H1 : (if a0 = 6 then (spec_l02Shape.j4 kj14 a0 (a0 == 6)) else (if a0 = 7 then (spec_l02Shape.j4 kj14 a0 (a0 == 7)) else (if a0 = 8 then (spec_l02Shape.j4 kj14 a0 (a0 == 8)) else (if a0 = 11 then (spec_l02Shape.j4 kj14 a0 (a0 == 11)) else (if a0 = 12 then (spec_l02Shape.j4 kj14 a0 (a0 == 12)) else (if a0 = 13 then (spec_l02Shape.j4 kj14 a0 (a0 == 13)) else (if a0 = 14 then (spec_l02Shape.j4 kj14 a0 (a0 == 14)) else (if a0 = 15 then (spec_l02Shape.j4 kj14 a0 (a0 == 15)) else (if a0 = 16 then (spec_l02Shape.j4 kj14 a0 (a0 == 16)) else (spec_l02Shape.j4 kj14 a0 (a0 == 25))))))))))) = some (r1, r2, r3) := by rw [if_neg (show ¬ (false = true) by decide)] at H; exact H
             clear H; have H := H1; clear H1; have HC18 := Aside0.mk H; clear H
             go_upto_if 22 with (fail)
             go_cut [22] (fun v22 wc => ∃ (kq : Nat) (x22_17 : Bool), v22 = .bool x22_17 ∧ Aside0 (spec_l02Shape.j4 kq a0 x22_17 = some (r1, r2, r3)) ∧ Aside0 (kq ≤ kj14) ∧ Drawn0 w wc)
             case first =>
              have H := HC18.out; clear HC18
              by_cases c19 : a0 = 6
              ·
               rw [if_pos c19] at H; have c19b0 : (a0 == 6) = true := beq_iff_eq.mpr c19; have c19b1 : (a0 != 6) = false := bne_eq_false_iff_eq.mpr c19; clear c19
               (first | rw [c19b0] | (simp only [i64_w, i32_w]; rw [c19b0]) | skip)
               have H' := Aside0.mk H; clear H
               go_wp2
               go_meet
               case rel => exact ⟨_, ((a0 == 6)), (by first | rfl | (simp; done) | (simp [*]; done)), H', ⟨by have := HJ1.out; have := HJ5.out; have := HJ11.out; have := HJ14.out; first | omega | exact Nat.le_refl _⟩, by repeat (first | exact Drawn0.refl _ | apply Drawn0.step)⟩
              ·
               rw [if_neg c19] at H; have c19b0 : (a0 == 6) = false := beq_eq_false_iff_ne.mpr c19; have c19b1 : (a0 != 6) = true := bne_iff_ne.mpr c19
               (first | rw [c19b0] | (simp only [i64_w, i32_w]; rw [c19b0]) | skip)
               by_cases c20 : a0 = 7
               ·
                rw [if_pos c20] at H; have c20b0 : (a0 == 7) = true := beq_iff_eq.mpr c20; have c20b1 : (a0 != 7) = false := bne_eq_false_iff_eq.mpr c20; clear c20; have H' := Aside0.mk H; clear H
                go_wp2
                go_meet
                case rel => exact ⟨_, ((a0 == 7)), (by first | rfl | (simp; done) | (simp [*]; done)), H', ⟨by have := HJ1.out; have := HJ5.out; have := HJ11.out; have := HJ14.out; first | omega | exact Nat.le_refl _⟩, by repeat (first | exact Drawn0.refl _ | apply Drawn0.step)⟩
               ·
                rw [if_neg c20] at H; have c20b0 : (a0 == 7) = false := beq_eq_false_iff_ne.mpr c20; have c20b1 : (a0 != 7) = true := bne_iff_ne.mpr c20
                by_cases c21 : a0 = 8
                ·
                 rw [if_pos c21] at H; have c21b0 : (a0 == 8) = true := beq_iff_eq.mpr c21; have c21b1 : (a0 != 8) = false := bne_eq_false_iff_eq.mpr c21; clear c21; have H' := Aside0.mk H; clear H
                 go_wp2
                 go_meet
                 case rel => exact ⟨_, ((a0 == 8)), (by first | rfl | (simp; done) | (simp [*]; done)), H', ⟨by have := HJ1.out; have := HJ5.out; have := HJ11.out; have := HJ14.out; first | omega | exact Nat.le_refl _⟩, by repeat (first | exact Drawn0.refl _ | apply Drawn0.step)⟩
                ·
                 rw [if_neg c21] at H; have c21b0 : (a0 == 8) = false := beq_eq_false_iff_ne.mpr c21; have c21b1 : (a0 != 8) = true := bne_iff_ne.mpr c21
                 by_cases c22 : a0 = 11
                 ·
                  rw [if_pos c22] at H; have c22b0 : (a0 == 11) = true := beq_iff_eq.mpr c22; have c22b1 : (a0 != 11) = false := bne_eq_false_iff_eq.mpr c22; clear c22; have H' := Aside0.mk H; clear H
                  go_wp2
                  go_meet
                  case rel => exact ⟨_, ((a0 == 11)), (by first | rfl | (simp; done) | (simp [*]; done)), H', ⟨by have := HJ1.out; have := HJ5.out; have := HJ11.out; have := HJ14.out; first | omega | exact Nat.le_refl _⟩, by repeat (first | exact Drawn0.refl _ | apply Drawn0.step)⟩
                 ·
                  rw [if_neg c22] at H; have c22b0 : (a0 == 11) = false := beq_eq_false_iff_ne.mpr c22; have c22b1 : (a0 != 11) = true := bne_iff_ne.mpr c22
                  by_cases c23 : a0 = 12
                  ·
                   rw [if_pos c23] at H; have c23b0 : (a0 == 12) = true := beq_iff_eq.mpr c23; have c23b1 : (a0 != 12) = false := bne_eq_false_iff_eq.mpr c23; clear c23; have H' := Aside0.mk H; clear H
                   go_wp2
                   go_meet
                   case rel => exact ⟨_, ((a0 == 12)), (by first | rfl | (simp; done) | (simp [*]; done)), H', ⟨by have := HJ1.out; have := HJ5.out; have := HJ11.out; have := HJ14.out; first | omega | exact Nat.le_refl _⟩, by repeat (first | exact Drawn0.refl _ | apply Drawn0.step)⟩
                  ·
                   rw [if_neg c23] at H; have c23b0 : (a0 == 12) = false := beq_eq_false_iff_ne.mpr c23; have c23b1 : (a0 != 12) = true := bne_iff_ne.mpr c23
                   by_cases c24 : a0 = 13
                   ·
                    rw [if_pos c24] at H; have c24b0 : (a0 == 13) = true := beq_iff_eq.mpr c24; have c24b1 : (a0 != 13) = false := bne_eq_false_iff_eq.mpr c24; clear c24; have H' := Aside0.mk H; clear H
                    go_wp2
                    go_meet
                    case rel => exact ⟨_, ((a0 == 13)), (by first | rfl | (simp; done) | (simp [*]; done)), H', ⟨by have := HJ1.out; have := HJ5.out; have := HJ11.out; have := HJ14.out; first | omega | exact Nat.le_refl _⟩, by repeat (first | exact Drawn0.refl _ | apply Drawn0.step)⟩
                   ·
                    rw [if_neg c24] at H; have c24b0 : (a0 == 13) = false := beq_eq_false_iff_ne.mpr c24; have c24b1 : (a0 != 13) = true := bne_iff_ne.mpr c24
                    by_cases c25 : a0 = 14
                    ·
                     rw [if_pos c25] at H; have c25b0 : (a0 == 14) = true := beq_iff_eq.mpr c25; have c25b1 : (a0 != 14) = false := bne_eq_false_iff_eq.mpr c25; clear c25; have H' := Aside0.mk H; clear H
                     go_wp2
                     go_meet
                     case rel => exact ⟨_, ((a0 == 14)), (by first | rfl | (simp; done) | (simp [*]; done)), H', ⟨by have := HJ1.out; have := HJ5.out; have := HJ11.out; have := HJ14.out; first | omega | exact Nat.le_refl _⟩, by repeat (first | exact Drawn0.refl _ | apply Drawn0.step)⟩
                    ·
                     rw [if_neg c25] at H; have c25b0 : (a0 == 14) = false := beq_eq_false_iff_ne.mpr c25; have c25b1 : (a0 != 14) = true := bne_iff_ne.mpr c25
                     by_cases c26 : a0 = 15
                     ·
                      rw [if_pos c26] at H; have c26b0 : (a0 == 15) = true := beq_iff_eq.mpr c26; have c26b1 : (a0 != 15) = false := bne_eq_false_iff_eq.mpr c26; clear c26; have H' := Aside0.mk H; clear H
                      go_wp2
                      go_meet
                      case rel => exact ⟨_, ((a0 == 15)), (by first | rfl | (simp; done) | (simp [*]; done)), H', ⟨by have := HJ1.out; have := HJ5.out; have := HJ11.out; have := HJ14.out; first | omega | exact Nat.le_refl _⟩, by repeat (first | exact Drawn0.refl _ | apply Drawn0.step)⟩
                     ·
                      rw [if_neg c26] at H; have c26b0 : (a0 == 15) = false := beq_eq_false_iff_ne.mpr c26; have c26b1 : (a0 != 15) = true := bne_iff_ne.mpr c26
                      by_cases c27 : a0 = 16
                      ·
                       rw [if_pos c27] at H; have c27b0 : (a0 == 16) = true := beq_iff_eq.mpr c27; have c27b1 : (a0 != 16) = false := bne_eq_false_iff_eq.mpr c27; clear c27; have H' := Aside0.mk H; clear H
                       go_wp2
                       go_meet
                       case rel => exact ⟨_, ((a0 == 16)), (by first | rfl | (simp; done) | (simp [*]; done)), H', ⟨by have := HJ1.out; have := HJ5.out; have := HJ11.out; have := HJ14.out; first | omega | exact Nat.le_refl _⟩, by repeat (first | exact Drawn0.refl _ | apply Drawn0.step)⟩
                      ·
                       rw [if_neg c27] at H; have c27b0 : (a0 == 16) = false := beq_eq_false_iff_ne.mpr c27; have c27b1 : (a0 != 16) = true := bne_iff_ne.mpr c27; have H' := Aside0.mk H; clear H
                       go_wp2
                       go_meet
                       case rel => exact ⟨_, ((a0 == 25)), (by first | rfl | (simp; done) | (simp [*]; done)), H', ⟨by have := HJ1.out; have := HJ5.out; have := HJ11.out; have := HJ14.out; first | omega | exact Nat.le_refl _⟩, by repeat (first | exact Drawn0.refl _ | apply Drawn0.step)⟩
             case rest =>
              clear HC18
              try clear c1
              try clear c2
              try clear p2
              try clear c3
              try clear c3b0
              try clear c3b1
              try clear c4
              try clear c4b0
              try clear c4b1
              try clear c5
              try clear c6
              try clear c7
              try clear c7b0
              try clear c7b1
              try clear c8
              try clear c8b0
              try clear c8b1
              try clear c9
              try clear c9b0
              try clear c9b1
              try clear c10
              try clear c10b0
              try clear c10b1
              try clear c11
              try clear c13
              try clear c13b0
              try clear c13b1
              try clear c14
              try clear c16
              try clear c16b0
              try clear c16b1
              try clear c17
              try clear c19
              try clear c19b0
              try clear c19b1
              try clear c20
              try clear c20b0
              try clear c20b1
              try clear c21
              try clear c21b0
              try clear c21b1
              try clear c22
              try clear c22b0
              try clear c22b1
              try clear c23
              try clear c23b0
              try clear c23b1
              try clear c24
              try clear c24b0
              try clear c24b1
              try clear c25
              try clear c25b0
              try clear c25b1
              try clear c26
              try clear c26b0
              try clear c26b1
              try clear c27
              try clear c27b0
              try clear c27b1
              try clear p2
              obtain ⟨kq, x22_17, rfl, HA, HJ17, ⟨mc17, rfl⟩⟩ := hcut; cases kq with
              | zero => exact absurd HA.out (by simp [spec_l02Shape.j4])
              | succ kj17 =>
               have H := HA.out; clear HA; simp only [spec_l02Shape.j4] at H
               by_cases c28 : x22_17 = true
               ·
                subst c28; have H1 : (some (2, false, true)) = some (r1, r2, r3) := by rw [if_pos rfl] at H; exact H
                clear H; have H := H1; clear H1; simp only [Option.some.injEq, Prod.mk.injEq] at H; obtain ⟨rfl, rfl, rfl⟩ := H
                go_wp2
                go_ret3
                exact ⟨by first | rfl | (simp; done) | (simp [*]; done), by repeat (first | exact Drawn0.refl _ | apply Drawn0.step)⟩
               ·
                replace c28 := Bool.eq_false_iff.mpr c28; subst c28; have H1 : (if a0 = 22 then (some (2, true, true)) else (if a0 = 24 then (some (3, false, true)) else (if a0 = 26 then (some (3, true, true)) else (if a0 = 30 then (some ((-1), false, true)) else (if a0 = 40 then (some ((-1), false, true)) else (some (0, false, false))))))) = some (r1, r2, r3) := by rw [if_neg (show ¬ (false = true) by decide)] at H; exact H
                clear H; have H := H1; clear H1
                by_cases c29 : a0 = 22
                ·
                 rw [if_pos c29] at H; have c29b0 : (a0 == 22) = true := beq_iff_eq.mpr c29; have c29b1 : (a0 != 22) = false := bne_eq_false_iff_eq.mpr c29; clear c29; simp only [Option.some.injEq, Prod.mk.injEq] at H; obtain ⟨rfl, rfl, rfl⟩ := H
                 go_wp2
                 go_ret3
                 exact ⟨by first | rfl | (simp; done) | (simp [*]; done), by repeat (first | exact Drawn0.refl _ | apply Drawn0.step)⟩
                ·
                 rw [if_neg c29] at H; have c29b0 : (a0 == 22) = false := beq_eq_false_iff_ne.mpr c29; have c29b1 : (a0 != 22) = true := bne_iff_ne.mpr c29
                 by_cases c30 : a0 = 24
                 ·
                  rw [if_pos c30] at H; have c30b0 : (a0 == 24) = true := beq_iff_eq.mpr c30; have c30b1 : (a0 != 24) = false := bne_eq_false_iff_eq.mpr c30; clear c30; simp only [Option.some.injEq, Prod.mk.injEq] at H; obtain ⟨rfl, rfl, rfl⟩ := H
                  go_wp2
                  go_ret3
                  exact ⟨by first | rfl | (simp; done) | (simp [*]; done), by repeat (first | exact Drawn0.refl _ | apply Drawn0.step)⟩
                 ·
                  rw [if_neg c30] at H; have c30b0 : (a0 == 24) = false := beq_eq_false_iff_ne.mpr c30; have c30b1 : (a0 != 24) = true := bne_iff_ne.mpr c30
                  by_cases c31 : a0 = 26
                  ·
                   rw [if_pos c31] at H; have c31b0 : (a0 == 26) = true := beq_iff_eq.mpr c31; have c31b1 : (a0 != 26) = false := bne_eq_false_iff_eq.mpr c31; clear c31; simp only [Option.some.injEq, Prod.mk.injEq] at H; obtain ⟨rfl, rfl, rfl⟩ := H
                   go_wp2
                   go_ret3
                   exact ⟨by first | rfl | (simp; done) | (simp [*]; done), by repeat (first | exact Drawn0.refl _ | apply Drawn0.step)⟩
                  ·
                   rw [if_neg c31] at H; have c31b0 : (a0 == 26) = false := beq_eq_false_iff_ne.mpr c31; have c31b1 : (a0 != 26) = true := bne_iff_ne.mpr c31
                   by_cases c32 : a0 = 30
                   ·
                    rw [if_pos c32] at H; have c32b0 : (a0 == 30) = true := beq_iff_eq.mpr c32; have c32b1 : (a0 != 30) = false := bne_eq_false_iff_eq.mpr c32; clear c32; simp only [Option.some.injEq, Prod.mk.injEq] at H; obtain ⟨rfl, rfl, rfl⟩ := H
                    go_wp2
                    go_ret3
                    exact ⟨by first | rfl | (simp; done) | (simp [*]; done), by repeat (first | exact Drawn0.refl _ | apply Drawn0.step)⟩
                   ·
                    rw [if_neg c32] at H; have c32b0 : (a0 == 30) = false := beq_eq_false_iff_ne.mpr c32; have c32b1 : (a0 != 30) = true := bne_iff_ne.mpr c32
                    by_cases c33 : a0 = 40
                    ·
                     rw [if_pos c33] at H; have c33b0 : (a0 == 40) = true := beq_iff_eq.mpr c33; have c33b1 : (a0 != 40) = false := bne_eq_false_iff_eq.mpr c33; clear c33; simp only [Option.some.injEq, Prod.mk.injEq] at H; obtain ⟨rfl, rfl, rfl⟩ := H
                     go_wp2
                     go_ret3
                     exact ⟨by first | rfl | (simp; done) | (simp [*]; done), by repeat (first | exact Drawn0.refl _ | apply Drawn0.step)⟩
                    ·
                     rw [if_neg c33] at H; have c33b0 : (a0 == 40) = false := beq_eq_false_iff_ne.mpr c33; have c33b1 : (a0 != 40) = true := bne_iff_ne.mpr c33; simp only [Option.some.injEq, Prod.mk.injEq] at H; obtain ⟨rfl, rfl, rfl⟩ := H
                     go_wp2
                     go_ret3
                     exact ⟨by first | rfl | (simp; done) | (simp [*]; done), by repeat (first | exact Drawn0.refl _ | apply Drawn0.step)⟩

end Go.Proofs.YtmkppdeoepfpoaaDoor.Q
