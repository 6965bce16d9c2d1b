/- Functions of the translation as Lean functions, each with a proof that a call answers so; out of the seat, by this claim's own program prt.py. -/
import Derived.Test.YtlkcbfonjcflgaaDoorWRepsOne
import Derived.Test.YtlkcbfonjcflgaaDoorQx0
import Derived.Test.YtlkcbfonjcflgaaDoorQx4
import Derived.Test.YtlkcbfonjcflgaaDoorQx45
namespace Go.Proofs.YtlkcbfonjcflgaaDoor.Q
open Go.RowKit Go.Proofs.YtlkcbfonjcflgaaDoorW.PrintWords Go.Proofs.YtlkcbfonjcflgaaDoorW.PrintLast Go.Proofs.YtlkcbfonjcflgaaDoorW.PrintMore
attribute [local go_sem] max2_int min2_int max_two min_two max_three min_three max_four min_four   -- for this text's walks alone
set_option linter.unusedVariables false
set_option linter.unusedSimpArgs false

/-! ### spec_l01End: function 87 -/
mutual
def spec_l01End.j0 : Nat → ByteArray → Int → Bool → Option (Int)
 | 0, _, _, _ => none
 | k + 1, x0, x1, x14 => if x14 = true then (spec_l01End.l0 k x0 x1) else (if (wrap64 (x1 + 1)) < (x0.size : Int) then (if 0 ≤ x1 then (if x1 ≤ (wrap64 (x1 + 2)) then (if (wrap64 (x1 + 2)) ≤ (x0.size : Int) then ((spec_l01Sign.f k (x0.extract (x1 : Int).toNat ((wrap64 (x1 + 2)) : Int).toNat)).bind fun t769 => (if t769 = true then (some (wrap64 (x1 + 2))) else (some (wrap64 (x1 + 1))))) else (none)) else (none)) else (none)) else (some (wrap64 (x1 + 1))))
def spec_l01End.l0 : Nat → ByteArray → Int → Option (Int)
 | 0, _, _ => none
 | k + 1, x0, x1 => if x1 < (x0.size : Int) then (if 0 ≤ x1 then ((spec_l01Letter.f (bt x0 x1)).bind fun t767 => (if t767 = true then (spec_l01End.l0 k x0 (wrap64 (x1 + 1))) else ((spec_l01Digit.f (bt x0 x1)).bind fun t768 => (if t768 = true then (spec_l01End.l0 k x0 (wrap64 (x1 + 1))) else (some x1))))) else (none)) else (some x1)
end
def spec_l01End.f (k : Nat) (a0 : ByteArray) (a1 : Int) : Option (Int) := if 0 ≤ a1 then (if a1 < (a0.size : Int) then ((spec_l01Letter.f (bt a0 a1)).bind fun t765 => (if t765 = true then (spec_l01End.j0 k a0 a1 true) else ((spec_l01Digit.f (bt a0 a1)).bind fun t766 => (spec_l01End.j0 k a0 a1 t766)))) else (none)) else (none)
theorem spec_l01End.mono_l : ∀ k, (∀ y0 y1 y2, LeO (spec_l01End.j0 k y0 y1 y2) (spec_l01End.j0 (k + 1) y0 y1 y2)) ∧ (∀ y0 y1, LeO (spec_l01End.l0 k y0 y1) (spec_l01End.l0 (k + 1) y0 y1))
 | 0 => ⟨fun _ _ _ r h => by simp [spec_l01End.j0] at h, fun _ _ r h => by simp [spec_l01End.l0] at h⟩
 | k + 1 => by
  obtain ⟨ih0, ih1⟩ := spec_l01End.mono_l k; refine ⟨?_, ?_⟩
  ·
   intro y0 y1 y2; unfold spec_l01End.j0
   repeat' first
   | (with_reducible exact ih0 _ _ _)
   | (with_reducible exact ih1 _ _)
   | (with_reducible exact spec_l01Sign.mono _ _)
   | (with_reducible exact LeO.refl _)
   | (with_reducible exact LeO.none _)
   | (with_reducible refine LeO.ite ?_ ?_)
   | (with_reducible refine LeO.bind ?_ (fun _ => ?_))
   | exact ih0 _ _ _
   | exact ih1 _ _
   | exact spec_l01Sign.mono _ _
   | exact LeO.none _
   | refine LeO.ite ?_ ?_
   | refine LeO.bind ?_ (fun _ => ?_)
  ·
   intro y0 y1; unfold spec_l01End.l0
   repeat' first
   | (with_reducible exact ih0 _ _ _)
   | (with_reducible exact ih1 _ _)
   | (with_reducible exact spec_l01Sign.mono _ _)
   | (with_reducible exact LeO.refl _)
   | (with_reducible exact LeO.none _)
   | (with_reducible refine LeO.ite ?_ ?_)
   | (with_reducible refine LeO.bind ?_ (fun _ => ?_))
   | exact ih0 _ _ _
   | exact ih1 _ _
   | exact spec_l01Sign.mono _ _
   | exact LeO.none _
   | refine LeO.ite ?_ ?_
   | refine LeO.bind ?_ (fun _ => ?_)
theorem spec_l01End.mono : ∀ a0 a1 k, LeO (spec_l01End.f k a0 a1) (spec_l01End.f (k + 1) a0 a1) := by
 intro a0 a1 k; obtain ⟨ih0, ih1⟩ := spec_l01End.mono_l k; unfold spec_l01End.f
 repeat' first
   | (with_reducible exact ih0 _ _ _)
   | (with_reducible exact ih1 _ _)
   | (with_reducible exact spec_l01Sign.mono _ _)
   | (with_reducible exact LeO.refl _)
   | (with_reducible exact LeO.none _)
   | (with_reducible refine LeO.ite ?_ ?_)
   | (with_reducible refine LeO.bind ?_ (fun _ => ?_))
   | exact ih0 _ _ _
   | exact ih1 _ _
   | exact spec_l01Sign.mono _ _
   | exact LeO.none _
   | refine LeO.ite ?_ ?_
   | refine LeO.bind ?_ (fun _ => ?_)
set_option maxHeartbeats 8000000 in
set_option maxRecDepth 100000 in
theorem spec_l01End.calls (k : Nat) (a0 : ByteArray) (a1 : Int) (r : Int) (w : World) (h : spec_l01End.f k a0 a1 = some r) :
  Calls Tryd.prog 87 #[.string a0, .int .i64 a1] w fun e w' => e = .returned (.int .i64 r) ∧ Below w.heap.size w w' := by
 have HB := Aside0.mk (Below.refl w.heap.size w); have H : (if 0 ≤ a1 then (if a1 < (a0.size : Int) then ((spec_l01Letter.f (bt a0 a1)).bind fun t765 => (if t765 = true then (spec_l01End.j0 k a0 a1 true) else ((spec_l01Digit.f (bt a0 a1)).bind fun t766 => (spec_l01End.j0 k a0 a1 t766)))) else (none)) else (none)) = some r := h; clear h; have HC3 := Aside0.mk H; clear H
 go_enter Tryd.func87, Tryd.ntmps87
 go_upto_region 1 with (fail)
 go_cut [14] (fun v14 wc => ∃ (kq : Nat) (x14_2 : Bool), v14 = .bool x14_2 ∧ Aside0 (spec_l01End.j0 kq a0 a1 x14_2 = some r) ∧ Aside0 (kq ≤ k) ∧ Aside0 (Below w.heap.size w wc))
 case first =>
  have H := HC3.out; clear HC3
  by_cases c4 : 0 ≤ a1
  ·
   rw [if_pos c4] at H; have c4b0 : decide (0 ≤ a1) = true := decide_eq_true c4; clear c4
   (first | rw [c4b0] | (simp only [i64_w, i32_w]; rw [c4b0]) | skip)
   by_cases c5 : a1 < (a0.size : Int)
   ·
    rw [if_pos c5] at H; have c5b0 : decide (a1 < (a0.size : Int)) = true := decide_eq_true c5; clear c5; replace H := Option.bind_eq_some_iff.mp H; obtain ⟨t765, A70, H⟩ := H; replace H : (if t765 = true then (spec_l01End.j0 k a0 a1 true) else ((spec_l01Digit.f (bt a0 a1)).bind fun t766 => (spec_l01End.j0 k a0 a1 t766))) = some r := H; have A7 := Aside0.mk A70; clear A70
    by_cases c8 : t765 = true
    ·
     subst c8; have H1 : (spec_l01End.j0 k a0 a1 true) = some r := by rw [if_pos rfl] at H; exact H
     clear H; have H := H1; clear H1; have H' := Aside0.mk H; clear H; have p6 : 0 ≤ (a1 : Int) := of_decide_eq_true (by first | (with_reducible assumption) | assumption); have q6 : a1 < (a0.size : Int) := of_decide_eq_true (by first | (with_reducible assumption) | assumption); have hx6 := bt_at a0 a1; replace p6 := eq_true p6; replace q6 := eq_true q6
     go_wp2_with (first | ((with_reducible refine gate_callee (f := 127) rfl ?_); refine goesL_ (some 8) rfl rfl Tryd.func127 (by kernel_rfl) rfl #[.int .u8 (bt a0 a1)] rfl (by (try simp only [List.map_toArray, List.map_cons, List.map_nil]); first | done | rfl | (simp only [List.length_drop, List.length_take]; rfl)) ?_; (with_reducible refine (spec_l01Letter.calls (bt a0 a1) true _ A7.out).mono ?_); rintro e w' ⟨rfl, ⟨nd, rfl⟩⟩; refine ⟨_, rfl, ?_⟩))
     go_meet
     case rel => exact ⟨_, (true), (by first | rfl | (simp; done) | (simp [*]; done)), H', ⟨by first | omega | exact Nat.le_refl _⟩, ⟨by repeat (first | (with_reducible first | exact HB.out | apply below_alloc | apply pw_below_drewN | apply below_drew1) | exact HB.out)⟩⟩
    ·
     replace c8 := Bool.eq_false_iff.mpr c8; subst c8; have H1 : ((spec_l01Digit.f (bt a0 a1)).bind fun t766 => (spec_l01End.j0 k a0 a1 t766)) = some r := by rw [if_neg (show ¬ (false = true) by decide)] at H; exact H
     clear H; have H := H1; clear H1; replace H := Option.bind_eq_some_iff.mp H; obtain ⟨t766, A100, H⟩ := H; replace H : (spec_l01End.j0 k a0 a1 t766) = some r := H; have A10 := Aside0.mk A100; clear A100; have H' := Aside0.mk H; clear H; have p6 : 0 ≤ (a1 : Int) := of_decide_eq_true (by first | (with_reducible assumption) | assumption); have q6 : a1 < (a0.size : Int) := of_decide_eq_true (by first | (with_reducible assumption) | assumption); have hx6 := bt_at a0 a1; replace p6 := eq_true p6; replace q6 := eq_true q6
     go_wp2_with (first | ((with_reducible refine gate_callee (f := 127) rfl ?_); refine goesL_ (some 8) rfl rfl Tryd.func127 (by kernel_rfl) rfl #[.int .u8 (bt a0 a1)] rfl (by (try simp only [List.map_toArray, List.map_cons, List.map_nil]); first | done | rfl | (simp only [List.length_drop, List.length_take]; rfl)) ?_; (with_reducible refine (spec_l01Letter.calls (bt a0 a1) false _ A7.out).mono ?_); rintro e w' ⟨rfl, ⟨nd, rfl⟩⟩; refine ⟨_, rfl, ?_⟩; have p9 : 0 ≤ (a1 : Int) := of_decide_eq_true (by first | (with_reducible assumption) | assumption); have q9 : a1 < (a0.size : Int) := of_decide_eq_true (by first | (with_reducible assumption) | assumption); have hx9 := bt_at a0 a1; replace p9 := eq_true p9; replace q9 := eq_true q9) | (go_at_call 89; (with_reducible refine (spec_l01Digit.calls (bt a0 a1) t766 _ A10.out).mono ?_); rintro e w' ⟨rfl, ⟨nd, rfl⟩⟩))
     go_meet
     case rel => exact ⟨_, (t766), (by first | rfl | (simp; done) | (simp [*]; done)), H', ⟨by first | omega | exact Nat.le_refl _⟩, ⟨by repeat (first | (with_reducible first | exact HB.out | apply below_alloc | apply pw_below_drewN | apply below_drew1) | exact HB.out)⟩⟩
   ·
    rw [if_neg c5] at H; exact absurd H (by simp)
  ·
   rw [if_neg c4] at H; exact absurd H (by simp)
 case rest =>
  clear HC3
  try clear c1
  try clear p2
  try clear c4
  try clear c4b0
  try clear c5
  try clear c5b0
  try clear p6
  try clear q6
  try clear hx6
  try clear c8
  try clear p9
  try clear q9
  try clear hx9
  try clear p6
  try clear p9
  try clear q6
  try clear q9
  obtain ⟨kq, x14_2, rfl, HA, HJ2, HB⟩ := hcut; cases kq with
  | zero => exact absurd HA.out (by simp [spec_l01End.j0])
  | succ kj2 =>
   have H := HA.out; clear HA; simp only [spec_l01End.j0] at H
   by_cases c11 : x14_2 = true
   ·
    subst c11; have H1 : (spec_l01End.l0 kj2 a0 a1) = some r := by rw [if_pos rfl] at H; exact H
    clear H; have H := H1; clear H1; have H' := Aside0.mk H; clear H
    go_wp2
    go_loopg [1] kj2 (fun kq v1 w' => ∃ (x1_2 : Int), v1 = .int .i64 x1_2 ∧ Aside0 (spec_l01End.l0 kq a0 x1_2 = some r) ∧ Aside0 (kq ≤ kj2) ∧ Aside0 (Below w.heap.size w w'))
    case atStart => exact ⟨(a1), (by first | rfl | (simp; done) | (simp [*]; done)), H', ⟨Nat.le_refl _⟩, ⟨by repeat (first | (with_reducible first | exact HB.out | apply below_alloc | apply pw_below_drewN | apply below_drew1) | exact HB.out)⟩⟩
    case round =>
     clear H'
     try clear c1
     try clear p2
     try clear c4
     try clear c4b0
     try clear c5
     try clear c5b0
     try clear p6
     try clear q6
     try clear hx6
     try clear c8
     try clear p9
     try clear q9
     try clear hx9
     try clear c11
     try clear p2
     try clear p6
     try clear p9
     try clear q6
     try clear q9
     obtain ⟨x1_2, rfl, HA, HK2, HB⟩ := hrel; cases gk with
     | zero => exact absurd HA.out (by simp [spec_l01End.l0])
     | succ k2 =>
      have H := HA.out; clear HA; simp only [spec_l01End.l0] at H
      by_cases c12 : x1_2 < (a0.size : Int)
      ·
       rw [if_pos c12] at H; have c12b0 : decide (x1_2 < (a0.size : Int)) = true := decide_eq_true c12; clear c12
       by_cases c13 : 0 ≤ x1_2
       ·
        rw [if_pos c13] at H; have c13b0 : decide (0 ≤ x1_2) = true := decide_eq_true c13; clear c13; replace H := Option.bind_eq_some_iff.mp H; obtain ⟨t767, A150, H⟩ := H; replace H : (if t767 = true then (spec_l01End.l0 k2 a0 (wrap64 (x1_2 + 1))) else ((spec_l01Digit.f (bt a0 x1_2)).bind fun t768 => (if t768 = true then (spec_l01End.l0 k2 a0 (wrap64 (x1_2 + 1))) else (some x1_2)))) = some r := H; have A15 := Aside0.mk A150; clear A150
        by_cases c16 : t767 = true
        ·
         subst c16; have H1 : (spec_l01End.l0 k2 a0 (wrap64 (x1_2 + 1))) = some r := by rw [if_pos rfl] at H; exact H
         clear H; have H := H1; clear H1; have H' := Aside0.mk H; clear H; have p14 : 0 ≤ (x1_2 : Int) := of_decide_eq_true (by first | (with_reducible assumption) | assumption); have q14 : x1_2 < (a0.size : Int) := of_decide_eq_true (by first | (with_reducible assumption) | assumption); have hx14 := bt_at a0 x1_2; replace p14 := eq_true p14; replace q14 := eq_true q14
         go_wp2_with (first | (go_at_call 127; (with_reducible refine (spec_l01Letter.calls (bt a0 x1_2) true _ A15.out).mono ?_); rintro e w' ⟨rfl, ⟨nd, rfl⟩⟩))
         go_roundg k2
         case measure => have := HJ2.out; have := HK2.out; omega
         case rel => exact ⟨(wrap64 (x1_2 + 1)), (by first | rfl | (simp; done) | (simp [*]; done)), H', ⟨by have := HJ2.out; have := HK2.out; omega⟩, ⟨by repeat (first | (with_reducible first | exact HB.out | apply below_alloc | apply pw_below_drewN | apply below_drew1) | exact HB.out)⟩⟩
        ·
         replace c16 := Bool.eq_false_iff.mpr c16; subst c16; have H1 : ((spec_l01Digit.f (bt a0 x1_2)).bind fun t768 => (if t768 = true then (spec_l01End.l0 k2 a0 (wrap64 (x1_2 + 1))) else (some x1_2))) = some r := by rw [if_neg (show ¬ (false = true) by decide)] at H; exact H
         clear H; have H := H1; clear H1; replace H := Option.bind_eq_some_iff.mp H; obtain ⟨t768, A180, H⟩ := H; replace H : (if t768 = true then (spec_l01End.l0 k2 a0 (wrap64 (x1_2 + 1))) else (some x1_2)) = some r := H; have A18 := Aside0.mk A180; clear A180
         by_cases c19 : t768 = true
         ·
          subst c19; have H1 : (spec_l01End.l0 k2 a0 (wrap64 (x1_2 + 1))) = some r := by rw [if_pos rfl] at H; exact H
          clear H; have H := H1; clear H1; have H' := Aside0.mk H; clear H; have p14 : 0 ≤ (x1_2 : Int) := of_decide_eq_true (by first | (with_reducible assumption) | assumption); have q14 : x1_2 < (a0.size : Int) := of_decide_eq_true (by first | (with_reducible assumption) | assumption); have hx14 := bt_at a0 x1_2; replace p14 := eq_true p14; replace q14 := eq_true q14
          go_wp2_with (first | (go_at_call 127; (with_reducible refine (spec_l01Letter.calls (bt a0 x1_2) false _ A15.out).mono ?_); rintro e w' ⟨rfl, ⟨nd, rfl⟩⟩; have p17 : 0 ≤ (x1_2 : Int) := of_decide_eq_true (by first | (with_reducible assumption) | assumption); have q17 : x1_2 < (a0.size : Int) := of_decide_eq_true (by first | (with_reducible assumption) | assumption); have hx17 := bt_at a0 x1_2; replace p17 := eq_true p17; replace q17 := eq_true q17) | (go_at_call 89; (with_reducible refine (spec_l01Digit.calls (bt a0 x1_2) true _ A18.out).mono ?_); rintro e w' ⟨rfl, ⟨nd, rfl⟩⟩))
          go_roundg k2
          case measure => have := HJ2.out; have := HK2.out; omega
          case rel => exact ⟨(wrap64 (x1_2 + 1)), (by first | rfl | (simp; done) | (simp [*]; done)), H', ⟨by have := HJ2.out; have := HK2.out; omega⟩, ⟨by repeat (first | (with_reducible first | exact HB.out | apply below_alloc | apply pw_below_drewN | apply below_drew1) | exact HB.out)⟩⟩
         ·
          replace c19 := Bool.eq_false_iff.mpr c19; subst c19; have H1 : (some x1_2) = some r := by rw [if_neg (show ¬ (false = true) by decide)] at H; exact H
          clear H; have H := H1; clear H1; obtain rfl := Option.some.inj H; have p14 : 0 ≤ (x1_2 : Int) := of_decide_eq_true (by first | (with_reducible assumption) | assumption); have q14 : x1_2 < (a0.size : Int) := of_decide_eq_true (by first | (with_reducible assumption) | assumption); have hx14 := bt_at a0 x1_2; replace p14 := eq_true p14; replace q14 := eq_true q14
          go_wp2_with (first | (go_at_call 127; (with_reducible refine (spec_l01Letter.calls (bt a0 x1_2) false _ A15.out).mono ?_); rintro e w' ⟨rfl, ⟨nd, rfl⟩⟩; have p17 : 0 ≤ (x1_2 : Int) := of_decide_eq_true (by first | (with_reducible assumption) | assumption); have q17 : x1_2 < (a0.size : Int) := of_decide_eq_true (by first | (with_reducible assumption) | assumption); have hx17 := bt_at a0 x1_2; replace p17 := eq_true p17; replace q17 := eq_true q17) | (go_at_call 89; (with_reducible refine (spec_l01Digit.calls (bt a0 x1_2) false _ A18.out).mono ?_); rintro e w' ⟨rfl, ⟨nd, rfl⟩⟩))
          go_ret
          exact ⟨by first | rfl | (simp [errW_none, errW_some] <;> rfl) | (simp [*, errW_none, errW_some] <;> rfl), by repeat (first | (with_reducible first | exact HB.out | apply below_alloc | apply pw_below_drewN | apply below_drew1) | exact HB.out)⟩
       ·
        rw [if_neg c13] at H; exact absurd H (by simp)
      ·
       rw [if_neg c12] at H; have c12b0 : decide (x1_2 < (a0.size : Int)) = false := decide_eq_false c12; clear c12; obtain rfl := Option.some.inj H
       go_wp2
       go_ret
       exact ⟨by first | rfl | (simp [errW_none, errW_some] <;> rfl) | (simp [*, errW_none, errW_some] <;> rfl), by repeat (first | (with_reducible first | exact HB.out | apply below_alloc | apply pw_below_drewN | apply below_drew1) | exact HB.out)⟩
   ·
    replace c11 := Bool.eq_false_iff.mpr c11; subst c11; have H1 : (if (wrap64 (a1 + 1)) < (a0.size : Int) then (if 0 ≤ a1 then (if a1 ≤ (wrap64 (a1 + 2)) then (if (wrap64 (a1 + 2)) ≤ (a0.size : Int) then ((spec_l01Sign.f kj2 (a0.extract (a1 : Int).toNat ((wrap64 (a1 + 2)) : Int).toNat)).bind fun t769 => (if t769 = true then (some (wrap64 (a1 + 2))) else (some (wrap64 (a1 + 1))))) else (none)) else (none)) else (none)) else (some (wrap64 (a1 + 1)))) = some r := by rw [if_neg (show ¬ (false = true) by decide)] at H; exact H
    clear H; have H := H1; clear H1
    by_cases c20 : (wrap64 (a1 + 1)) < (a0.size : Int)
    ·
     rw [if_pos c20] at H; have c20b0 : decide ((wrap64 (a1 + 1)) < (a0.size : Int)) = true := decide_eq_true c20; clear c20
     by_cases c21 : 0 ≤ a1
     ·
      rw [if_pos c21] at H; have c21b0 := eq_true c21; have c21b1 : decide (0 ≤ a1) = true := decide_eq_true c21; clear c21
      by_cases c22 : a1 ≤ (wrap64 (a1 + 2))
      ·
       rw [if_pos c22] at H; have c22b0 := eq_true c22; have c22b1 : decide (a1 ≤ (wrap64 (a1 + 2))) = true := decide_eq_true c22
       by_cases c23 : (wrap64 (a1 + 2)) ≤ (a0.size : Int)
       ·
        rw [if_pos c23] at H; have c23b0 := eq_true c23; have c23b1 : decide ((wrap64 (a1 + 2)) ≤ (a0.size : Int)) = true := decide_eq_true c23; replace H := Option.bind_eq_some_iff.mp H; obtain ⟨t769, A240, H⟩ := H; replace H : (if t769 = true then (some (wrap64 (a1 + 2))) else (some (wrap64 (a1 + 1)))) = some r := H; have A24 := Aside0.mk A240; clear A240
        by_cases c25 : t769 = true
        ·
         subst c25; have H1 : (some (wrap64 (a1 + 2))) = some r := by rw [if_pos rfl] at H; exact H
         clear H; have H := H1; clear H1; obtain rfl := Option.some.inj H
         go_wp2_with (first | (go_at_call 128; (with_reducible refine (spec_l01Sign.calls kj2 (a0.extract (a1 : Int).toNat ((wrap64 (a1 + 2)) : Int).toNat) true _ A24.out).mono ?_); rintro e w26 ⟨rfl, hb⟩; have n0_ := Aside0.mk (below_step (by repeat (first | (with_reducible first | exact HB.out | apply below_alloc | apply pw_below_drewN | apply below_drew1) | exact HB.out)) hb); clear HB; have HB := n0_; clear n0_; (try clear hb); (try clear hb2); (try clear hk); (try clear hi)))
         go_ret
         exact ⟨by first | rfl | (simp [errW_none, errW_some] <;> rfl) | (simp [*, errW_none, errW_some] <;> rfl), by repeat (first | (with_reducible first | exact HB.out | apply below_alloc | apply pw_below_drewN | apply below_drew1) | exact HB.out)⟩
        ·
         replace c25 := Bool.eq_false_iff.mpr c25; subst c25; have H1 : (some (wrap64 (a1 + 1))) = some r := by rw [if_neg (show ¬ (false = true) by decide)] at H; exact H
         clear H; have H := H1; clear H1; obtain rfl := Option.some.inj H
         go_wp2_with (first | (go_at_call 128; (with_reducible refine (spec_l01Sign.calls kj2 (a0.extract (a1 : Int).toNat ((wrap64 (a1 + 2)) : Int).toNat) false _ A24.out).mono ?_); rintro e w27 ⟨rfl, hb⟩; have n0_ := Aside0.mk (below_step (by repeat (first | (with_reducible first | exact HB.out | apply below_alloc | apply pw_below_drewN | apply below_drew1) | exact HB.out)) hb); clear HB; have HB := n0_; clear n0_; (try clear hb); (try clear hb2); (try clear hk); (try clear hi)))
         go_ret
         exact ⟨by first | rfl | (simp [errW_none, errW_some] <;> rfl) | (simp [*, errW_none, errW_some] <;> rfl), by repeat (first | (with_reducible first | exact HB.out | apply below_alloc | apply pw_below_drewN | apply below_drew1) | exact HB.out)⟩
       ·
        rw [if_neg c23] at H; exact absurd H (by simp)
      ·
       rw [if_neg c22] at H; exact absurd H (by simp)
     ·
      rw [if_neg c21] at H; exact absurd H (by simp)
    ·
     rw [if_neg c20] at H; have c20b0 : decide ((wrap64 (a1 + 1)) < (a0.size : Int)) = false := decide_eq_false c20; clear c20; obtain rfl := Option.some.inj H
     go_wp2
     go_ret
     exact ⟨by first | rfl | (simp [errW_none, errW_some] <;> rfl) | (simp [*, errW_none, errW_some] <;> rfl), by repeat (first | (with_reducible first | exact HB.out | apply below_alloc | apply pw_below_drewN | apply below_drew1) | exact HB.out)⟩

end Go.Proofs.YtlkcbfonjcflgaaDoor.Q
