/- Functions of the translation as Lean functions, each with a proof that a call answers so; out of the seat, by this claim's own program prt.py. -/
import Derived.Test.YtfeloencepgdlaaGreatDoorWRepsOne
import Derived.Test.YtfeloencepgdlaaGreatDoorWGuard
import Derived.Test.YtfeloencepgdlaaGreatDoorQx0
import Derived.Test.YtfeloencepgdlaaGreatDoorQx22
import Derived.Test.YtfeloencepgdlaaGreatDoorQx23
import Derived.Test.YtfeloencepgdlaaGreatDoorQStep
namespace Go.Proofs.YtfeloencepgdlaaGreatDoor.Q
open Go.RowKit Go.Proofs.YtfeloencepgdlaaGreatDoorW.PrintWords Go.Proofs.YtfeloencepgdlaaGreatDoorW.PrintLast Go.Proofs.YtfeloencepgdlaaGreatDoorW.PrintMore
attribute [local go_sem] max2_int min2_int max_two min_two max_three min_three max_four min_four   -- for this text's walks alone
set_option linter.unusedVariables false
set_option linter.unusedSimpArgs false

/-! ### impl_kindOf: function 51 -/
def impl_kindOf.l0 : Nat → ByteArray → Int → Int → Option (Int)
 | 0, _, _, _ => none
 | k + 1, x0, x17, x18 => if x18 < x17 then (if 0 ≤ x18 then (if x18 < (x0.size : Int) then ((impl_isLetter.f (bt x0 x18)).bind fun t328 => (if t328 = true then (impl_kindOf.l0 k x0 x17 (wrap64 (x18 + 1))) else ((impl_isDigit.f (bt x0 x18)).bind fun t329 => (if t329 = true then (impl_kindOf.l0 k x0 x17 (wrap64 (x18 + 1))) else (some 0))))) else (none)) else (none)) else (if (x0.size : Int) ≤ 8 then (some 1) else (some 0))
def impl_kindOf.f (k : Nat) (a0 : ByteArray) : Option (Int) := if a0.toList = ([] : List UInt8) then (some 0) else ((impl_isKey.f k a0).bind fun t326 => (if t326 = true then (some 4) else (if 0 < (a0.size : Int) then ((impl_isLetter.f (bt a0 0)).bind fun t327 => (if t327 = true then (impl_kindOf.l0 k a0 (a0.size : Int) 0) else ((impl_isDigit.f (bt a0 0)).bind fun t330 => (if t330 = true then ((impl_readNum.f a0).bind fun bt331 => (if bt331.2 = true then (if bt331.1 ≤ 1000000 then (some 2) else (some 0)) else (some 0))) else ((slices_Contains_string_string.f k (([(⟨#[61, 61]⟩ : ByteArray), (⟨#[33, 61]⟩ : ByteArray), (⟨#[60, 61]⟩ : ByteArray), (⟨#[62, 61]⟩ : ByteArray)] : List ByteArray)) a0).bind fun t336 => (if t336 = true then (some 3) else (if (a0.size : Int) = 1 then ((strings_Contains.f (⟨#[43, 45, 42, 40, 41, 91, 93, 123, 125, 59, 61, 60, 62, 63]⟩ : ByteArray) a0).bind fun t337 => (if t337 = true then (some 3) else (some 0))) else (some 0)))))))) else (none))))
theorem impl_kindOf.mono_l : ∀ k, (∀ y0 y1 y2, LeO (impl_kindOf.l0 k y0 y1 y2) (impl_kindOf.l0 (k + 1) y0 y1 y2))
 | 0 => fun _ _ _ r h => by simp [impl_kindOf.l0] at h
 | k + 1 => by
  have ih0 := impl_kindOf.mono_l k
  ·
   intro y0 y1 y2; unfold impl_kindOf.l0
   repeat' first
   | (with_reducible exact ih0 _ _ _)
   | (with_reducible exact impl_isKey.mono _ _)
   | (with_reducible exact slices_Contains_string_string.mono _ _ _)
   | (with_reducible exact LeO.refl _)
   | (with_reducible exact LeO.none _)
   | (with_reducible refine LeO.ite ?_ ?_)
   | (with_reducible refine LeO.bind ?_ (fun _ => ?_))
   | exact ih0 _ _ _
   | exact impl_isKey.mono _ _
   | exact slices_Contains_string_string.mono _ _ _
   | exact LeO.none _
   | refine LeO.ite ?_ ?_
   | refine LeO.bind ?_ (fun _ => ?_)
theorem impl_kindOf.mono : ∀ a0 k, LeO (impl_kindOf.f k a0) (impl_kindOf.f (k + 1) a0) := by
 intro a0 k; have ih0 := impl_kindOf.mono_l k; unfold impl_kindOf.f
 repeat' first
   | (with_reducible exact ih0 _ _ _)
   | (with_reducible exact impl_isKey.mono _ _)
   | (with_reducible exact slices_Contains_string_string.mono _ _ _)
   | (with_reducible exact LeO.refl _)
   | (with_reducible exact LeO.none _)
   | (with_reducible refine LeO.ite ?_ ?_)
   | (with_reducible refine LeO.bind ?_ (fun _ => ?_))
   | exact ih0 _ _ _
   | exact impl_isKey.mono _ _
   | exact slices_Contains_string_string.mono _ _ _
   | exact LeO.none _
   | refine LeO.ite ?_ ?_
   | refine LeO.bind ?_ (fun _ => ?_)
set_option maxHeartbeats 8000000 in
set_option maxRecDepth 100000 in
theorem impl_kindOf.calls (k : Nat) (a0 : ByteArray) (r : Int) (w : World) (hG1 : GL1 w) (hG2 : GL2 w) (hG3 : GL3 w) (hG4 : GL4 w) (h : impl_kindOf.f k a0 = some r) :
  Calls Tryz.prog 51 #[.string a0] w fun e w' => e = .returned (.int .i64 r) ∧ Below w.heap.size w w' := by
 have HB := Aside0.mk (Below.refl w.heap.size w); have HG1 := Aside0.mk hG1; clear hG1; have HG2 := Aside0.mk hG2; clear hG2; have HG3 := Aside0.mk hG3; clear hG3; have HG4 := Aside0.mk hG4; clear hG4; have H : (if a0.toList = ([] : List UInt8) then (some 0) else ((impl_isKey.f k a0).bind fun t326 => (if t326 = true then (some 4) else (if 0 < (a0.size : Int) then ((impl_isLetter.f (bt a0 0)).bind fun t327 => (if t327 = true then (impl_kindOf.l0 k a0 (a0.size : Int) 0) else ((impl_isDigit.f (bt a0 0)).bind fun t330 => (if t330 = true then ((impl_readNum.f a0).bind fun bt331 => (if bt331.2 = true then (if bt331.1 ≤ 1000000 then (some 2) else (some 0)) else (some 0))) else ((slices_Contains_string_string.f k (([(⟨#[61, 61]⟩ : ByteArray), (⟨#[33, 61]⟩ : ByteArray), (⟨#[60, 61]⟩ : ByteArray), (⟨#[62, 61]⟩ : ByteArray)] : List ByteArray)) a0).bind fun t336 => (if t336 = true then (some 3) else (if (a0.size : Int) = 1 then ((strings_Contains.f (⟨#[43, 45, 42, 40, 41, 91, 93, 123, 125, 59, 61, 60, 62, 63]⟩ : ByteArray) a0).bind fun t337 => (if t337 = true then (some 3) else (some 0))) else (some 0)))))))) else (none))))) = some r := h; clear h
 by_cases c2 : a0.toList = ([] : List UInt8)
 ·
  rw [if_pos c2] at H; have c2b0 : (a0.toList == ([] : List UInt8)) = true := beq_iff_eq.mpr c2; have c2b1 : (a0.toList != ([] : List UInt8)) = false := bne_eq_false_iff_eq.mpr c2
  (try (have c2b2 : a0.toList.isEmpty = true := by rw [c2]; rfl))
  clear c2; obtain rfl := Option.some.inj H
  go_enter Tryz.func51, Tryz.ntmps51
  go_wp2
  go_ret
  exact ⟨by first | rfl | (simp [errW_none, errW_some] <;> rfl) | (simp [*, errW_none, errW_some] <;> rfl), sq_below HB.out⟩
 ·
  rw [if_neg c2] at H; have c2b0 : (a0.toList == ([] : List UInt8)) = false := beq_eq_false_iff_ne.mpr c2; have c2b1 : (a0.toList != ([] : List UInt8)) = true := bne_iff_ne.mpr c2
  (try (have c2b2 : a0.toList.isEmpty = false := List.isEmpty_eq_false_iff.mpr c2))
  replace H := Option.bind_eq_some_iff.mp H; obtain ⟨t326, A30, H⟩ := H; (try dsimp only at H); have A3 := Aside0.mk A30; clear A30
  by_cases c4 : t326 = true
  ·
   subst c4; have H1 := ifp_ H
   clear H; have H := H1; clear H1; obtain rfl := Option.some.inj H
   go_enter Tryz.func51, Tryz.ntmps51
   go_wp2_with (first | ((with_reducible refine gate_callee (f := 72) rfl ?_); refine gl_ 11 Tryz.func72 #[.string a0] (h := ?_); (with_reducible refine (impl_isKey.calls k a0 true _ A3.out).mono ?_); rintro e w5 ⟨rfl, hb⟩; refine ⟨_, rfl, ?_⟩; replace HB := hb_ HB hb; (try clear hb)))
   go_ret
   exact ⟨by first | rfl | (simp [errW_none, errW_some] <;> rfl) | (simp [*, errW_none, errW_some] <;> rfl), sq_below HB.out⟩
  ·
   replace c4 := Bool.eq_false_iff.mpr c4; subst c4; have H1 := ifn_ H
   clear H; have H := H1; clear H1
   by_cases c6 : 0 < (a0.size : Int)
   ·
    rw [if_pos c6] at H; have c6b0 : decide (0 < (a0.size : Int)) = true := decide_eq_true c6; have c6b1 : decide (0 < a0.size) = true := decide_eq_true (by omega); clear c6; replace H := Option.bind_eq_some_iff.mp H; obtain ⟨t327, A80, H⟩ := H; (try dsimp only at H); have A8 := Aside0.mk A80; clear A80
    by_cases c9 : t327 = true
    ·
     subst c9; have H1 := ifp_ H
     clear H; have H := H1; clear H1; have H' := Aside0.mk H; clear H
     go_enter Tryz.func51, Tryz.ntmps51
     go_wp2_with (first | ((with_reducible refine gate_callee (f := 72) rfl ?_); refine gl_ 11 Tryz.func72 #[.string a0] (h := ?_); (with_reducible refine (impl_isKey.calls k a0 false _ A3.out).mono ?_); rintro e w10 ⟨rfl, hb⟩; refine ⟨_, rfl, ?_⟩; replace HB := hb_ HB hb; (try clear hb); have p7 : 0 ≤ (0 : Int) := (by omega); have q7 : 0 < a0.size := (by have : (0 : Int) < (a0.size : Int) := sq_dec; omega); have hx7 : ∀ h : 0 < a0.size, ((a0[0]'h).toNat : Int) = bt a0 0 := bt_at a0 0; clear p7; have qi7 : (0 < (a0.size : Int)) = True := eq_true (sq_dec); replace q7 := eq_true q7) | ((with_reducible refine gate_callee (f := 73) rfl ?_); refine gl_ 15 Tryz.func73 #[.int .u8 (bt a0 0)] (h := ?_); (with_reducible refine (impl_isLetter.calls (bt a0 0) true _ A8.out).mono ?_); rintro e w' ⟨rfl, ⟨nd, rfl⟩⟩; refine ⟨_, rfl, ?_⟩))
     go_loopg [18] k (fun kq v18 w' => ∃ (x18_1 : Int), v18 = .int .i64 x18_1 ∧ Aside0 (impl_kindOf.l0 kq a0 (a0.size : Int) x18_1 = some r) ∧ Aside0 (kq ≤ k) ∧ Aside0 (Below w.heap.size w w'))
     case atStart => exact ⟨(0), (by first | rfl | (simp; done) | (simp [*]; done)), H', ⟨Nat.le_refl _⟩, ⟨sq_below HB.out⟩⟩
     case round =>
      clear H'
      try clear c2
      try clear c2b0
      try clear c2b1
      try clear c2b2
      try clear p2
      try clear c4
      try clear c5
      try clear c6
      try clear c6b0
      try clear c6b1
      try clear c7
      try clear p7
      try clear q7
      try clear hx7
      try clear qi7
      try clear c9
      try clear p7
      try clear q7
      obtain ⟨x18_1, rfl, HA, HK1, HB⟩ := hrel; cases gk with
      | zero => exact absurd HA.out (by simp [impl_kindOf.l0])
      | succ k1 =>
       have H := HA.out; clear HA; simp only [impl_kindOf.l0] at H
       by_cases c11 : x18_1 < (a0.size : Int)
       ·
        rw [if_pos c11] at H; have c11b0 : decide (x18_1 < (a0.size : Int)) = true := decide_eq_true c11; clear c11
        by_cases c12 : 0 ≤ x18_1
        ·
         rw [if_pos c12] at H; have c12b0 : decide (0 ≤ x18_1) = true := decide_eq_true c12; clear c12
         by_cases c13 : x18_1 < (a0.size : Int)
         ·
          rw [if_pos c13] at H; have c13b0 : decide (x18_1 < (a0.size : Int)) = true := decide_eq_true c13; clear c13; replace H := Option.bind_eq_some_iff.mp H; obtain ⟨t328, A150, H⟩ := H; (try dsimp only at H); have A15 := Aside0.mk A150; clear A150
          by_cases c16 : t328 = true
          ·
           subst c16; have H1 := ifp_ H
           clear H; have H := H1; clear H1; have H' := Aside0.mk H; clear H; have p14 : 0 ≤ (x18_1 : Int) := sq_dec; have q14 : x18_1 < (a0.size : Int) := sq_dec; have hx14 := bt_at a0 x18_1; replace p14 := eq_true p14; replace q14 := eq_true q14
           go_wp2_with (first | ((with_reducible refine gate_callee (f := 73) rfl ?_); refine gl_ 24 Tryz.func73 #[.int .u8 (bt a0 x18_1)] (h := ?_); (with_reducible refine (impl_isLetter.calls (bt a0 x18_1) true _ A15.out).mono ?_); rintro e w' ⟨rfl, ⟨nd, rfl⟩⟩; refine ⟨_, rfl, ?_⟩))
           go_roundg k1
           case measure => have := HK1.out; omega
           case rel => exact ⟨(wrap64 (x18_1 + 1)), (by first | rfl | (simp; done) | (simp [*]; done)), H', ⟨by have := HK1.out; omega⟩, ⟨sq_below HB.out⟩⟩
          ·
           replace c16 := Bool.eq_false_iff.mpr c16; subst c16; have H1 := ifn_ H
           clear H; have H := H1; clear H1; replace H := Option.bind_eq_some_iff.mp H; obtain ⟨t329, A180, H⟩ := H; (try dsimp only at H); have A18 := Aside0.mk A180; clear A180
           by_cases c19 : t329 = true
           ·
            subst c19; have H1 := ifp_ H
            clear H; have H := H1; clear H1; have H' := Aside0.mk H; clear H; have p14 : 0 ≤ (x18_1 : Int) := sq_dec; have q14 : x18_1 < (a0.size : Int) := sq_dec; have hx14 := bt_at a0 x18_1; replace p14 := eq_true p14; replace q14 := eq_true q14
            go_wp2_with (first | ((with_reducible refine gate_callee (f := 73) rfl ?_); refine gl_ 24 Tryz.func73 #[.int .u8 (bt a0 x18_1)] (h := ?_); (with_reducible refine (impl_isLetter.calls (bt a0 x18_1) false _ A15.out).mono ?_); rintro e w' ⟨rfl, ⟨nd, rfl⟩⟩; refine ⟨_, rfl, ?_⟩; have p17 : 0 ≤ (x18_1 : Int) := sq_dec; have q17 : x18_1 < (a0.size : Int) := sq_dec; have hx17 := bt_at a0 x18_1; replace p17 := eq_true p17; replace q17 := eq_true q17) | (go_at_call 74; (with_reducible refine (impl_isDigit.calls (bt a0 x18_1) true _ A18.out).mono ?_); rintro e w' ⟨rfl, ⟨nd, rfl⟩⟩))
            go_roundg k1
            case measure => have := HK1.out; omega
            case rel => exact ⟨(wrap64 (x18_1 + 1)), (by first | rfl | (simp; done) | (simp [*]; done)), H', ⟨by have := HK1.out; omega⟩, ⟨sq_below HB.out⟩⟩
           ·
            replace c19 := Bool.eq_false_iff.mpr c19; subst c19; have H1 := ifn_ H
            clear H; have H := H1; clear H1; obtain rfl := Option.some.inj H; have p14 : 0 ≤ (x18_1 : Int) := sq_dec; have q14 : x18_1 < (a0.size : Int) := sq_dec; have hx14 := bt_at a0 x18_1; replace p14 := eq_true p14; replace q14 := eq_true q14
            go_wp2_with (first | ((with_reducible refine gate_callee (f := 73) rfl ?_); refine gl_ 24 Tryz.func73 #[.int .u8 (bt a0 x18_1)] (h := ?_); (with_reducible refine (impl_isLetter.calls (bt a0 x18_1) false _ A15.out).mono ?_); rintro e w' ⟨rfl, ⟨nd, rfl⟩⟩; refine ⟨_, rfl, ?_⟩; have p17 : 0 ≤ (x18_1 : Int) := sq_dec; have q17 : x18_1 < (a0.size : Int) := sq_dec; have hx17 := bt_at a0 x18_1; replace p17 := eq_true p17; replace q17 := eq_true q17) | (go_at_call 74; (with_reducible refine (impl_isDigit.calls (bt a0 x18_1) false _ A18.out).mono ?_); rintro e w' ⟨rfl, ⟨nd, rfl⟩⟩))
            go_ret
            exact ⟨by first | rfl | (simp [errW_none, errW_some] <;> rfl) | (simp [*, errW_none, errW_some] <;> rfl), sq_below HB.out⟩
         ·
          rw [if_neg c13] at H; exact absurd H (by simp)
        ·
         rw [if_neg c12] at H; exact absurd H (by simp)
       ·
        rw [if_neg c11] at H; have c11b0 : decide (x18_1 < (a0.size : Int)) = false := decide_eq_false c11; clear c11
        by_cases c20 : (a0.size : Int) ≤ 8
        ·
         rw [if_pos c20] at H; have c20b0 : decide ((a0.size : Int) ≤ 8) = true := decide_eq_true c20; have c20b1 : decide (a0.size ≤ 8) = true := decide_eq_true (by omega); clear c20; obtain rfl := Option.some.inj H
         go_wp2
         go_ret
         exact ⟨by first | rfl | (simp [errW_none, errW_some] <;> rfl) | (simp [*, errW_none, errW_some] <;> rfl), sq_below HB.out⟩
        ·
         rw [if_neg c20] at H; have c20b0 : decide ((a0.size : Int) ≤ 8) = false := decide_eq_false c20; have c20b1 : decide (a0.size ≤ 8) = false := decide_eq_false (by omega); clear c20; obtain rfl := Option.some.inj H
         go_wp2
         go_ret
         exact ⟨by first | rfl | (simp [errW_none, errW_some] <;> rfl) | (simp [*, errW_none, errW_some] <;> rfl), sq_below HB.out⟩
    ·
     replace c9 := Bool.eq_false_iff.mpr c9; subst c9; have H1 := ifn_ H
     clear H; have H := H1; clear H1; replace H := Option.bind_eq_some_iff.mp H; obtain ⟨t330, A220, H⟩ := H; (try dsimp only at H); have A22 := Aside0.mk A220; clear A220
     by_cases c23 : t330 = true
     ·
      subst c23; have H1 := ifp_ H
      clear H; have H := H1; clear H1; replace H := Option.bind_eq_some_iff.mp H; obtain ⟨⟨t331, t332⟩, A240, H⟩ := H; (try dsimp only at H); have A24 := Aside0.mk A240; clear A240
      by_cases c25 : t332 = true
      ·
       subst c25; have H1 := ifp_ H
       clear H; have H := H1; clear H1
       by_cases c26 : t331 ≤ 1000000
       ·
        rw [if_pos c26] at H; have c26b0 : decide (t331 ≤ 1000000) = true := decide_eq_true c26; clear c26; obtain rfl := Option.some.inj H
        go_enter Tryz.func51, Tryz.ntmps51
        go_wp2_with (first | ((with_reducible refine gate_callee (f := 72) rfl ?_); refine gl_ 11 Tryz.func72 #[.string a0] (h := ?_); (with_reducible refine (impl_isKey.calls k a0 false _ A3.out).mono ?_); rintro e w27 ⟨rfl, hb⟩; refine ⟨_, rfl, ?_⟩; replace HB := hb_ HB hb; (try clear hb); have p7 : 0 ≤ (0 : Int) := (by omega); have q7 : 0 < a0.size := (by have : (0 : Int) < (a0.size : Int) := sq_dec; omega); have hx7 : ∀ h : 0 < a0.size, ((a0[0]'h).toNat : Int) = bt a0 0 := bt_at a0 0; clear p7; have qi7 : (0 < (a0.size : Int)) = True := eq_true (sq_dec); replace q7 := eq_true q7) | ((with_reducible refine gate_callee (f := 73) rfl ?_); refine gl_ 15 Tryz.func73 #[.int .u8 (bt a0 0)] (h := ?_); (with_reducible refine (impl_isLetter.calls (bt a0 0) false _ A8.out).mono ?_); rintro e w' ⟨rfl, ⟨nd, rfl⟩⟩; refine ⟨_, rfl, ?_⟩; have p21 : 0 ≤ (0 : Int) := (by omega); have q21 : 0 < a0.size := (by have : (0 : Int) < (a0.size : Int) := sq_dec; omega); have hx21 : ∀ h : 0 < a0.size, ((a0[0]'h).toNat : Int) = bt a0 0 := bt_at a0 0; clear p21; have qi21 : (0 < (a0.size : Int)) = True := eq_true (sq_dec); replace q21 := eq_true q21) | ((with_reducible refine gate_callee (f := 74) rfl ?_); refine gl_ 40 Tryz.func74 #[.int .u8 (bt a0 0)] (h := ?_); (with_reducible refine (impl_isDigit.calls (bt a0 0) true _ A22.out).mono ?_); rintro e w' ⟨rfl, ⟨nd, rfl⟩⟩; refine ⟨_, rfl, ?_⟩) | ((with_reducible refine gate_callee (f := 75) rfl ?_); refine gl_ 43 Tryz.func75 #[.string a0] (h := ?_); (with_reducible refine (impl_readNum.calls a0 t331 true _ ?side1 ?side2 ?side3 A24.out).mono ?_); (case side1 => exact GL2.below HG2.out (sq_below HB.out)); (case side2 => exact GL3.below HG3.out (sq_below HB.out)); (case side3 => exact GL4.below HG4.out (sq_below HB.out)); rintro e w28 ⟨rfl, hb⟩; refine ⟨_, rfl, ?_⟩; replace HB := hb_ HB hb; (try clear hb)))
        go_ret
        exact ⟨by first | rfl | (simp [errW_none, errW_some] <;> rfl) | (simp [*, errW_none, errW_some] <;> rfl), sq_below HB.out⟩
       ·
        rw [if_neg c26] at H; have c26b0 : decide (t331 ≤ 1000000) = false := decide_eq_false c26; clear c26; obtain rfl := Option.some.inj H
        go_enter Tryz.func51, Tryz.ntmps51
        go_wp2_with (first | ((with_reducible refine gate_callee (f := 72) rfl ?_); refine gl_ 11 Tryz.func72 #[.string a0] (h := ?_); (with_reducible refine (impl_isKey.calls k a0 false _ A3.out).mono ?_); rintro e w29 ⟨rfl, hb⟩; refine ⟨_, rfl, ?_⟩; replace HB := hb_ HB hb; (try clear hb); have p7 : 0 ≤ (0 : Int) := (by omega); have q7 : 0 < a0.size := (by have : (0 : Int) < (a0.size : Int) := sq_dec; omega); have hx7 : ∀ h : 0 < a0.size, ((a0[0]'h).toNat : Int) = bt a0 0 := bt_at a0 0; clear p7; have qi7 : (0 < (a0.size : Int)) = True := eq_true (sq_dec); replace q7 := eq_true q7) | ((with_reducible refine gate_callee (f := 73) rfl ?_); refine gl_ 15 Tryz.func73 #[.int .u8 (bt a0 0)] (h := ?_); (with_reducible refine (impl_isLetter.calls (bt a0 0) false _ A8.out).mono ?_); rintro e w' ⟨rfl, ⟨nd, rfl⟩⟩; refine ⟨_, rfl, ?_⟩; have p21 : 0 ≤ (0 : Int) := (by omega); have q21 : 0 < a0.size := (by have : (0 : Int) < (a0.size : Int) := sq_dec; omega); have hx21 : ∀ h : 0 < a0.size, ((a0[0]'h).toNat : Int) = bt a0 0 := bt_at a0 0; clear p21; have qi21 : (0 < (a0.size : Int)) = True := eq_true (sq_dec); replace q21 := eq_true q21) | ((with_reducible refine gate_callee (f := 74) rfl ?_); refine gl_ 40 Tryz.func74 #[.int .u8 (bt a0 0)] (h := ?_); (with_reducible refine (impl_isDigit.calls (bt a0 0) true _ A22.out).mono ?_); rintro e w' ⟨rfl, ⟨nd, rfl⟩⟩; refine ⟨_, rfl, ?_⟩) | ((with_reducible refine gate_callee (f := 75) rfl ?_); refine gl_ 43 Tryz.func75 #[.string a0] (h := ?_); (with_reducible refine (impl_readNum.calls a0 t331 true _ ?side1 ?side2 ?side3 A24.out).mono ?_); (case side1 => exact GL2.below HG2.out (sq_below HB.out)); (case side2 => exact GL3.below HG3.out (sq_below HB.out)); (case side3 => exact GL4.below HG4.out (sq_below HB.out)); rintro e w30 ⟨rfl, hb⟩; refine ⟨_, rfl, ?_⟩; replace HB := hb_ HB hb; (try clear hb)))
        go_ret
        exact ⟨by first | rfl | (simp [errW_none, errW_some] <;> rfl) | (simp [*, errW_none, errW_some] <;> rfl), sq_below HB.out⟩
      ·
       replace c25 := Bool.eq_false_iff.mpr c25; subst c25; have H1 := ifn_ H
       clear H; have H := H1; clear H1; obtain rfl := Option.some.inj H
       go_enter Tryz.func51, Tryz.ntmps51
       go_wp2_with (first | ((with_reducible refine gate_callee (f := 72) rfl ?_); refine gl_ 11 Tryz.func72 #[.string a0] (h := ?_); (with_reducible refine (impl_isKey.calls k a0 false _ A3.out).mono ?_); rintro e w31 ⟨rfl, hb⟩; refine ⟨_, rfl, ?_⟩; replace HB := hb_ HB hb; (try clear hb); have p7 : 0 ≤ (0 : Int) := (by omega); have q7 : 0 < a0.size := (by have : (0 : Int) < (a0.size : Int) := sq_dec; omega); have hx7 : ∀ h : 0 < a0.size, ((a0[0]'h).toNat : Int) = bt a0 0 := bt_at a0 0; clear p7; have qi7 : (0 < (a0.size : Int)) = True := eq_true (sq_dec); replace q7 := eq_true q7) | ((with_reducible refine gate_callee (f := 73) rfl ?_); refine gl_ 15 Tryz.func73 #[.int .u8 (bt a0 0)] (h := ?_); (with_reducible refine (impl_isLetter.calls (bt a0 0) false _ A8.out).mono ?_); rintro e w' ⟨rfl, ⟨nd, rfl⟩⟩; refine ⟨_, rfl, ?_⟩; have p21 : 0 ≤ (0 : Int) := (by omega); have q21 : 0 < a0.size := (by have : (0 : Int) < (a0.size : Int) := sq_dec; omega); have hx21 : ∀ h : 0 < a0.size, ((a0[0]'h).toNat : Int) = bt a0 0 := bt_at a0 0; clear p21; have qi21 : (0 < (a0.size : Int)) = True := eq_true (sq_dec); replace q21 := eq_true q21) | ((with_reducible refine gate_callee (f := 74) rfl ?_); refine gl_ 40 Tryz.func74 #[.int .u8 (bt a0 0)] (h := ?_); (with_reducible refine (impl_isDigit.calls (bt a0 0) true _ A22.out).mono ?_); rintro e w' ⟨rfl, ⟨nd, rfl⟩⟩; refine ⟨_, rfl, ?_⟩) | ((with_reducible refine gate_callee (f := 75) rfl ?_); refine gl_ 43 Tryz.func75 #[.string a0] (h := ?_); (with_reducible refine (impl_readNum.calls a0 t331 false _ ?side1 ?side2 ?side3 A24.out).mono ?_); (case side1 => exact GL2.below HG2.out (sq_below HB.out)); (case side2 => exact GL3.below HG3.out (sq_below HB.out)); (case side3 => exact GL4.below HG4.out (sq_below HB.out)); rintro e w32 ⟨rfl, hb⟩; refine ⟨_, rfl, ?_⟩; replace HB := hb_ HB hb; (try clear hb)))
       go_ret
       exact ⟨by first | rfl | (simp [errW_none, errW_some] <;> rfl) | (simp [*, errW_none, errW_some] <;> rfl), sq_below HB.out⟩
     ·
      replace c23 := Bool.eq_false_iff.mpr c23; subst c23; have H1 := ifn_ H
      clear H; have H := H1; clear H1; obtain ⟨y333, hy333⟩ : ∃ y_ : List ByteArray, y_ = (([(⟨#[61, 61]⟩ : ByteArray), (⟨#[33, 61]⟩ : ByteArray), (⟨#[60, 61]⟩ : ByteArray), (⟨#[62, 61]⟩ : ByteArray)] : List ByteArray)) := ⟨_, rfl⟩; replace H : ((slices_Contains_string_string.f k y333 a0).bind fun t336 => (if t336 = true then (some 3) else (if (a0.size : Int) = 1 then ((strings_Contains.f (⟨#[43, 45, 42, 40, 41, 91, 93, 123, 125, 59, 61, 60, 62, 63]⟩ : ByteArray) a0).bind fun t337 => (if t337 = true then (some 3) else (some 0))) else (some 0)))) = some r := by first | (rw [hy333]; with_reducible exact H) | (have H2_ := (Option.bind_some _ _).symm.trans H; rw [hy333]; with_reducible exact H2_) | (have H2_ := (Option.bind_some _ _).symm.trans H; with_reducible exact H2_) | with_reducible exact H | (rw [hy333]; exact H) | exact H
      have Ny333 := Aside0.mk hy333; clear hy333; replace H := Option.bind_eq_some_iff.mp H; obtain ⟨t336, A330, H⟩ := H; (try dsimp only at H); have A33 := Aside0.mk A330; clear A330
      by_cases c34 : t336 = true
      ·
       subst c34; have H1 := ifp_ H
       clear H; have H := H1; clear H1; obtain rfl := Option.some.inj H
       go_enter Tryz.func51, Tryz.ntmps51
       go_wp2_with (first | ((with_reducible refine gate_callee (f := 72) rfl ?_); refine gl_ 11 Tryz.func72 #[.string a0] (h := ?_); (with_reducible refine (impl_isKey.calls k a0 false _ A3.out).mono ?_); rintro e w35 ⟨rfl, hb⟩; refine ⟨_, rfl, ?_⟩; replace HB := hb_ HB hb; (try clear hb); have p7 : 0 ≤ (0 : Int) := (by omega); have q7 : 0 < a0.size := (by have : (0 : Int) < (a0.size : Int) := sq_dec; omega); have hx7 : ∀ h : 0 < a0.size, ((a0[0]'h).toNat : Int) = bt a0 0 := bt_at a0 0; clear p7; have qi7 : (0 < (a0.size : Int)) = True := eq_true (sq_dec); replace q7 := eq_true q7) | ((with_reducible refine gate_callee (f := 73) rfl ?_); refine gl_ 15 Tryz.func73 #[.int .u8 (bt a0 0)] (h := ?_); (with_reducible refine (impl_isLetter.calls (bt a0 0) false _ A8.out).mono ?_); rintro e w' ⟨rfl, ⟨nd, rfl⟩⟩; refine ⟨_, rfl, ?_⟩; have p21 : 0 ≤ (0 : Int) := (by omega); have q21 : 0 < a0.size := (by have : (0 : Int) < (a0.size : Int) := sq_dec; omega); have hx21 : ∀ h : 0 < a0.size, ((a0[0]'h).toNat : Int) = bt a0 0 := bt_at a0 0; clear p21; have qi21 : (0 < (a0.size : Int)) = True := eq_true (sq_dec); replace q21 := eq_true q21) | ((with_reducible refine gate_callee (f := 74) rfl ?_); refine gl_ 40 Tryz.func74 #[.int .u8 (bt a0 0)] (h := ?_); (with_reducible refine (impl_isDigit.calls (bt a0 0) false _ A22.out).mono ?_); rintro e w' ⟨rfl, ⟨nd, rfl⟩⟩; refine ⟨_, rfl, ?_⟩) | ((with_reducible refine gate_dst (N := 52) rfl ?_); (try (refine gate_guard (by rfl) ?_; dsimp only)); refine Kd.R_lit Kd.string _ 9 ?hg (N := 52) ?hd (xs := ([(⟨#[61, 61]⟩ : ByteArray), (⟨#[33, 61]⟩ : ByteArray), (⟨#[60, 61]⟩ : ByteArray), (⟨#[62, 61]⟩ : ByteArray)] : List ByteArray)) (inner := [.string (⟨#[61, 61]⟩ : ByteArray), .string (⟨#[33, 61]⟩ : ByteArray), .string (⟨#[60, 61]⟩ : ByteArray), .string (⟨#[62, 61]⟩ : ByteArray)]) (ok := fun _ => True) (okp := fun _ => True) ?hr ?hp (fun _ hk => hk) trivial (Below.refl _ _) (Nat.le_refl _) (by simp) ?_; (case hd => rfl); (case hg => rfl); (case hr => first | (go_simp; done) | (go_simp; rfl)); (case hp => exact (Reps.one (show Kd.M Kd.string _ _ _ (⟨#[61, 61]⟩ : ByteArray) [.string (⟨#[61, 61]⟩ : ByteArray)] from rfl) (Reps.one (show Kd.M Kd.string _ _ _ (⟨#[33, 61]⟩ : ByteArray) [.string (⟨#[33, 61]⟩ : ByteArray)] from rfl) (Reps.one (show Kd.M Kd.string _ _ _ (⟨#[60, 61]⟩ : ByteArray) [.string (⟨#[60, 61]⟩ : ByteArray)] from rfl) (Reps.one (show Kd.M Kd.string _ _ _ (⟨#[62, 61]⟩ : ByteArray) [.string (⟨#[62, 61]⟩ : ByteArray)] from rfl) (Reps.none _ _)))))); intro v334 w36 ho37 hb hg_ hnew_; clear hg_ hnew_; (first | rw [← Ny333.out] at ho37 | (simp only [Int.reduceToNat] at ho37; rw [← Ny333.out] at ho37)); have n0_ := Aside0.mk (Kd.R_lower ho37 (below_size (sq_below HB.out))); have n1_ := Aside0.mk (below_step (sq_below HB.out) hb); clear HB; have HO335 := n0_; have HB := n1_; clear n0_ n1_; clear hb ho37; obtain ⟨Ao38, co38, eo38⟩ := Kd.R_slice HO335.out; subst eo38) | ((with_reducible refine gate_callee (f := 76) rfl ?_); refine gl_ 54 Tryz.func76 #[.slice Ao38 y333.length co38, .string a0] (h := ?_); (with_reducible refine (slices_Contains_string_string.calls k _ _ y333 a0 true _ ?side1 ?side2 A33.out).mono ?_); (case side1 => exact sq_c ((Kd.R_reads' HO335.out).2.2)); (case side2 => exact (Kd.R_reads' HO335.out).2.1); rintro e w' ⟨rfl, ⟨nd, rfl⟩⟩; refine ⟨_, rfl, ?_⟩))
       go_ret
       exact ⟨by first | rfl | (simp [errW_none, errW_some] <;> rfl) | (simp [*, errW_none, errW_some] <;> rfl), sq_below HB.out⟩
      ·
       replace c34 := Bool.eq_false_iff.mpr c34; subst c34; have H1 := ifn_ H
       clear H; have H := H1; clear H1
       by_cases c39 : (a0.size : Int) = 1
       ·
        rw [if_pos c39] at H; have c39b0 : ((a0.size : Int) == 1) = true := beq_iff_eq.mpr c39; have c39b1 : ((a0.size : Int) != 1) = false := bne_eq_false_iff_eq.mpr c39; clear c39; replace H := Option.bind_eq_some_iff.mp H; obtain ⟨t337, A400, H⟩ := H; replace H : (if t337 = true then (some 3) else (some 0)) = some r := H; have A40 := Aside0.mk A400; clear A400
        by_cases c41 : t337 = true
        ·
         subst c41; have H1 := ifp_ H
         clear H; have H := H1; clear H1; obtain rfl := Option.some.inj H
         go_enter Tryz.func51, Tryz.ntmps51
         go_wp2_with (first | ((with_reducible refine gate_callee (f := 72) rfl ?_); refine gl_ 11 Tryz.func72 #[.string a0] (h := ?_); (with_reducible refine (impl_isKey.calls k a0 false _ A3.out).mono ?_); rintro e w42 ⟨rfl, hb⟩; refine ⟨_, rfl, ?_⟩; replace HB := hb_ HB hb; (try clear hb); have p7 : 0 ≤ (0 : Int) := (by omega); have q7 : 0 < a0.size := (by have : (0 : Int) < (a0.size : Int) := sq_dec; omega); have hx7 : ∀ h : 0 < a0.size, ((a0[0]'h).toNat : Int) = bt a0 0 := bt_at a0 0; clear p7; have qi7 : (0 < (a0.size : Int)) = True := eq_true (sq_dec); replace q7 := eq_true q7) | ((with_reducible refine gate_callee (f := 73) rfl ?_); refine gl_ 15 Tryz.func73 #[.int .u8 (bt a0 0)] (h := ?_); (with_reducible refine (impl_isLetter.calls (bt a0 0) false _ A8.out).mono ?_); rintro e w' ⟨rfl, ⟨nd, rfl⟩⟩; refine ⟨_, rfl, ?_⟩; have p21 : 0 ≤ (0 : Int) := (by omega); have q21 : 0 < a0.size := (by have : (0 : Int) < (a0.size : Int) := sq_dec; omega); have hx21 : ∀ h : 0 < a0.size, ((a0[0]'h).toNat : Int) = bt a0 0 := bt_at a0 0; clear p21; have qi21 : (0 < (a0.size : Int)) = True := eq_true (sq_dec); replace q21 := eq_true q21) | ((with_reducible refine gate_callee (f := 74) rfl ?_); refine gl_ 40 Tryz.func74 #[.int .u8 (bt a0 0)] (h := ?_); (with_reducible refine (impl_isDigit.calls (bt a0 0) false _ A22.out).mono ?_); rintro e w' ⟨rfl, ⟨nd, rfl⟩⟩; refine ⟨_, rfl, ?_⟩) | ((with_reducible refine gate_dst (N := 52) rfl ?_); (try (refine gate_guard (by rfl) ?_; dsimp only)); refine Kd.R_lit Kd.string _ 9 ?hg (N := 52) ?hd (xs := ([(⟨#[61, 61]⟩ : ByteArray), (⟨#[33, 61]⟩ : ByteArray), (⟨#[60, 61]⟩ : ByteArray), (⟨#[62, 61]⟩ : ByteArray)] : List ByteArray)) (inner := [.string (⟨#[61, 61]⟩ : ByteArray), .string (⟨#[33, 61]⟩ : ByteArray), .string (⟨#[60, 61]⟩ : ByteArray), .string (⟨#[62, 61]⟩ : ByteArray)]) (ok := fun _ => True) (okp := fun _ => True) ?hr ?hp (fun _ hk => hk) trivial (Below.refl _ _) (Nat.le_refl _) (by simp) ?_; (case hd => rfl); (case hg => rfl); (case hr => first | (go_simp; done) | (go_simp; rfl)); (case hp => exact (Reps.one (show Kd.M Kd.string _ _ _ (⟨#[61, 61]⟩ : ByteArray) [.string (⟨#[61, 61]⟩ : ByteArray)] from rfl) (Reps.one (show Kd.M Kd.string _ _ _ (⟨#[33, 61]⟩ : ByteArray) [.string (⟨#[33, 61]⟩ : ByteArray)] from rfl) (Reps.one (show Kd.M Kd.string _ _ _ (⟨#[60, 61]⟩ : ByteArray) [.string (⟨#[60, 61]⟩ : ByteArray)] from rfl) (Reps.one (show Kd.M Kd.string _ _ _ (⟨#[62, 61]⟩ : ByteArray) [.string (⟨#[62, 61]⟩ : ByteArray)] from rfl) (Reps.none _ _)))))); intro v334 w43 ho44 hb hg_ hnew_; clear hg_ hnew_; (first | rw [← Ny333.out] at ho44 | (simp only [Int.reduceToNat] at ho44; rw [← Ny333.out] at ho44)); have n0_ := Aside0.mk (Kd.R_lower ho44 (below_size (sq_below HB.out))); have n1_ := Aside0.mk (below_step (sq_below HB.out) hb); clear HB; have HO335 := n0_; have HB := n1_; clear n0_ n1_; clear hb ho44; obtain ⟨Ao45, co45, eo45⟩ := Kd.R_slice HO335.out; subst eo45) | ((with_reducible refine gate_callee (f := 76) rfl ?_); refine gl_ 54 Tryz.func76 #[.slice Ao45 y333.length co45, .string a0] (h := ?_); (with_reducible refine (slices_Contains_string_string.calls k _ _ y333 a0 false _ ?side1 ?side2 A33.out).mono ?_); (case side1 => exact sq_c ((Kd.R_reads' HO335.out).2.2)); (case side2 => exact (Kd.R_reads' HO335.out).2.1); rintro e w' ⟨rfl, ⟨nd, rfl⟩⟩; refine ⟨_, rfl, ?_⟩) | (go_at_call 77; (with_reducible refine (strings_Contains.calls (⟨#[43, 45, 42, 40, 41, 91, 93, 123, 125, 59, 61, 60, 62, 63]⟩ : ByteArray) a0 true _ ?side1 A40.out).mono ?_); (case side1 => exact GL1.below HG1.out (sq_below HB.out)); rintro e w46 ⟨rfl, hb⟩; replace HO335 := Aside0.mk (Kd.R_below (sq_row HO335.out) hb); replace HB := hb_ HB hb; (try clear hb)))
         go_ret
         exact ⟨by first | rfl | (simp [errW_none, errW_some] <;> rfl) | (simp [*, errW_none, errW_some] <;> rfl), sq_below HB.out⟩
        ·
         replace c41 := Bool.eq_false_iff.mpr c41; subst c41; have H1 := ifn_ H
         clear H; have H := H1; clear H1; obtain rfl := Option.some.inj H
         go_enter Tryz.func51, Tryz.ntmps51
         go_wp2_with (first | ((with_reducible refine gate_callee (f := 72) rfl ?_); refine gl_ 11 Tryz.func72 #[.string a0] (h := ?_); (with_reducible refine (impl_isKey.calls k a0 false _ A3.out).mono ?_); rintro e w47 ⟨rfl, hb⟩; refine ⟨_, rfl, ?_⟩; replace HB := hb_ HB hb; (try clear hb); have p7 : 0 ≤ (0 : Int) := (by omega); have q7 : 0 < a0.size := (by have : (0 : Int) < (a0.size : Int) := sq_dec; omega); have hx7 : ∀ h : 0 < a0.size, ((a0[0]'h).toNat : Int) = bt a0 0 := bt_at a0 0; clear p7; have qi7 : (0 < (a0.size : Int)) = True := eq_true (sq_dec); replace q7 := eq_true q7) | ((with_reducible refine gate_callee (f := 73) rfl ?_); refine gl_ 15 Tryz.func73 #[.int .u8 (bt a0 0)] (h := ?_); (with_reducible refine (impl_isLetter.calls (bt a0 0) false _ A8.out).mono ?_); rintro e w' ⟨rfl, ⟨nd, rfl⟩⟩; refine ⟨_, rfl, ?_⟩; have p21 : 0 ≤ (0 : Int) := (by omega); have q21 : 0 < a0.size := (by have : (0 : Int) < (a0.size : Int) := sq_dec; omega); have hx21 : ∀ h : 0 < a0.size, ((a0[0]'h).toNat : Int) = bt a0 0 := bt_at a0 0; clear p21; have qi21 : (0 < (a0.size : Int)) = True := eq_true (sq_dec); replace q21 := eq_true q21) | ((with_reducible refine gate_callee (f := 74) rfl ?_); refine gl_ 40 Tryz.func74 #[.int .u8 (bt a0 0)] (h := ?_); (with_reducible refine (impl_isDigit.calls (bt a0 0) false _ A22.out).mono ?_); rintro e w' ⟨rfl, ⟨nd, rfl⟩⟩; refine ⟨_, rfl, ?_⟩) | ((with_reducible refine gate_dst (N := 52) rfl ?_); (try (refine gate_guard (by rfl) ?_; dsimp only)); refine Kd.R_lit Kd.string _ 9 ?hg (N := 52) ?hd (xs := ([(⟨#[61, 61]⟩ : ByteArray), (⟨#[33, 61]⟩ : ByteArray), (⟨#[60, 61]⟩ : ByteArray), (⟨#[62, 61]⟩ : ByteArray)] : List ByteArray)) (inner := [.string (⟨#[61, 61]⟩ : ByteArray), .string (⟨#[33, 61]⟩ : ByteArray), .string (⟨#[60, 61]⟩ : ByteArray), .string (⟨#[62, 61]⟩ : ByteArray)]) (ok := fun _ => True) (okp := fun _ => True) ?hr ?hp (fun _ hk => hk) trivial (Below.refl _ _) (Nat.le_refl _) (by simp) ?_; (case hd => rfl); (case hg => rfl); (case hr => first | (go_simp; done) | (go_simp; rfl)); (case hp => exact (Reps.one (show Kd.M Kd.string _ _ _ (⟨#[61, 61]⟩ : ByteArray) [.string (⟨#[61, 61]⟩ : ByteArray)] from rfl) (Reps.one (show Kd.M Kd.string _ _ _ (⟨#[33, 61]⟩ : ByteArray) [.string (⟨#[33, 61]⟩ : ByteArray)] from rfl) (Reps.one (show Kd.M Kd.string _ _ _ (⟨#[60, 61]⟩ : ByteArray) [.string (⟨#[60, 61]⟩ : ByteArray)] from rfl) (Reps.one (show Kd.M Kd.string _ _ _ (⟨#[62, 61]⟩ : ByteArray) [.string (⟨#[62, 61]⟩ : ByteArray)] from rfl) (Reps.none _ _)))))); intro v334 w48 ho49 hb hg_ hnew_; clear hg_ hnew_; (first | rw [← Ny333.out] at ho49 | (simp only [Int.reduceToNat] at ho49; rw [← Ny333.out] at ho49)); have n0_ := Aside0.mk (Kd.R_lower ho49 (below_size (sq_below HB.out))); have n1_ := Aside0.mk (below_step (sq_below HB.out) hb); clear HB; have HO335 := n0_; have HB := n1_; clear n0_ n1_; clear hb ho49; obtain ⟨Ao50, co50, eo50⟩ := Kd.R_slice HO335.out; subst eo50) | ((with_reducible refine gate_callee (f := 76) rfl ?_); refine gl_ 54 Tryz.func76 #[.slice Ao50 y333.length co50, .string a0] (h := ?_); (with_reducible refine (slices_Contains_string_string.calls k _ _ y333 a0 false _ ?side1 ?side2 A33.out).mono ?_); (case side1 => exact sq_c ((Kd.R_reads' HO335.out).2.2)); (case side2 => exact (Kd.R_reads' HO335.out).2.1); rintro e w' ⟨rfl, ⟨nd, rfl⟩⟩; refine ⟨_, rfl, ?_⟩) | (go_at_call 77; (with_reducible refine (strings_Contains.calls (⟨#[43, 45, 42, 40, 41, 91, 93, 123, 125, 59, 61, 60, 62, 63]⟩ : ByteArray) a0 false _ ?side1 A40.out).mono ?_); (case side1 => exact GL1.below HG1.out (sq_below HB.out)); rintro e w51 ⟨rfl, hb⟩; replace HO335 := Aside0.mk (Kd.R_below (sq_row HO335.out) hb); replace HB := hb_ HB hb; (try clear hb)))
         go_ret
         exact ⟨by first | rfl | (simp [errW_none, errW_some] <;> rfl) | (simp [*, errW_none, errW_some] <;> rfl), sq_below HB.out⟩
       ·
        rw [if_neg c39] at H; have c39b0 : ((a0.size : Int) == 1) = false := beq_eq_false_iff_ne.mpr c39; have c39b1 : ((a0.size : Int) != 1) = true := bne_iff_ne.mpr c39; obtain rfl := Option.some.inj H
        go_enter Tryz.func51, Tryz.ntmps51
        go_wp2_with (first | ((with_reducible refine gate_callee (f := 72) rfl ?_); refine gl_ 11 Tryz.func72 #[.string a0] (h := ?_); (with_reducible refine (impl_isKey.calls k a0 false _ A3.out).mono ?_); rintro e w52 ⟨rfl, hb⟩; refine ⟨_, rfl, ?_⟩; replace HB := hb_ HB hb; (try clear hb); have p7 : 0 ≤ (0 : Int) := (by omega); have q7 : 0 < a0.size := (by have : (0 : Int) < (a0.size : Int) := sq_dec; omega); have hx7 : ∀ h : 0 < a0.size, ((a0[0]'h).toNat : Int) = bt a0 0 := bt_at a0 0; clear p7; have qi7 : (0 < (a0.size : Int)) = True := eq_true (sq_dec); replace q7 := eq_true q7) | ((with_reducible refine gate_callee (f := 73) rfl ?_); refine gl_ 15 Tryz.func73 #[.int .u8 (bt a0 0)] (h := ?_); (with_reducible refine (impl_isLetter.calls (bt a0 0) false _ A8.out).mono ?_); rintro e w' ⟨rfl, ⟨nd, rfl⟩⟩; refine ⟨_, rfl, ?_⟩; have p21 : 0 ≤ (0 : Int) := (by omega); have q21 : 0 < a0.size := (by have : (0 : Int) < (a0.size : Int) := sq_dec; omega); have hx21 : ∀ h : 0 < a0.size, ((a0[0]'h).toNat : Int) = bt a0 0 := bt_at a0 0; clear p21; have qi21 : (0 < (a0.size : Int)) = True := eq_true (sq_dec); replace q21 := eq_true q21) | ((with_reducible refine gate_callee (f := 74) rfl ?_); refine gl_ 40 Tryz.func74 #[.int .u8 (bt a0 0)] (h := ?_); (with_reducible refine (impl_isDigit.calls (bt a0 0) false _ A22.out).mono ?_); rintro e w' ⟨rfl, ⟨nd, rfl⟩⟩; refine ⟨_, rfl, ?_⟩) | ((with_reducible refine gate_dst (N := 52) rfl ?_); (try (refine gate_guard (by rfl) ?_; dsimp only)); refine Kd.R_lit Kd.string _ 9 ?hg (N := 52) ?hd (xs := ([(⟨#[61, 61]⟩ : ByteArray), (⟨#[33, 61]⟩ : ByteArray), (⟨#[60, 61]⟩ : ByteArray), (⟨#[62, 61]⟩ : ByteArray)] : List ByteArray)) (inner := [.string (⟨#[61, 61]⟩ : ByteArray), .string (⟨#[33, 61]⟩ : ByteArray), .string (⟨#[60, 61]⟩ : ByteArray), .string (⟨#[62, 61]⟩ : ByteArray)]) (ok := fun _ => True) (okp := fun _ => True) ?hr ?hp (fun _ hk => hk) trivial (Below.refl _ _) (Nat.le_refl _) (by simp) ?_; (case hd => rfl); (case hg => rfl); (case hr => first | (go_simp; done) | (go_simp; rfl)); (case hp => exact (Reps.one (show Kd.M Kd.string _ _ _ (⟨#[61, 61]⟩ : ByteArray) [.string (⟨#[61, 61]⟩ : ByteArray)] from rfl) (Reps.one (show Kd.M Kd.string _ _ _ (⟨#[33, 61]⟩ : ByteArray) [.string (⟨#[33, 61]⟩ : ByteArray)] from rfl) (Reps.one (show Kd.M Kd.string _ _ _ (⟨#[60, 61]⟩ : ByteArray) [.string (⟨#[60, 61]⟩ : ByteArray)] from rfl) (Reps.one (show Kd.M Kd.string _ _ _ (⟨#[62, 61]⟩ : ByteArray) [.string (⟨#[62, 61]⟩ : ByteArray)] from rfl) (Reps.none _ _)))))); intro v334 w53 ho54 hb hg_ hnew_; clear hg_ hnew_; (first | rw [← Ny333.out] at ho54 | (simp only [Int.reduceToNat] at ho54; rw [← Ny333.out] at ho54)); have n0_ := Aside0.mk (Kd.R_lower ho54 (below_size (sq_below HB.out))); have n1_ := Aside0.mk (below_step (sq_below HB.out) hb); clear HB; have HO335 := n0_; have HB := n1_; clear n0_ n1_; clear hb ho54; obtain ⟨Ao55, co55, eo55⟩ := Kd.R_slice HO335.out; subst eo55) | ((with_reducible refine gate_callee (f := 76) rfl ?_); refine gl_ 54 Tryz.func76 #[.slice Ao55 y333.length co55, .string a0] (h := ?_); (with_reducible refine (slices_Contains_string_string.calls k _ _ y333 a0 false _ ?side1 ?side2 A33.out).mono ?_); (case side1 => exact sq_c ((Kd.R_reads' HO335.out).2.2)); (case side2 => exact (Kd.R_reads' HO335.out).2.1); rintro e w' ⟨rfl, ⟨nd, rfl⟩⟩; refine ⟨_, rfl, ?_⟩))
        go_ret
        exact ⟨by first | rfl | (simp [errW_none, errW_some] <;> rfl) | (simp [*, errW_none, errW_some] <;> rfl), sq_below HB.out⟩
   ·
    rw [if_neg c6] at H; exact absurd H (by simp)

end Go.Proofs.YtfeloencepgdlaaGreatDoor.Q
