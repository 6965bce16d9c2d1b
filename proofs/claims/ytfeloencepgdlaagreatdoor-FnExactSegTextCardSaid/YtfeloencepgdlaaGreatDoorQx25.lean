/- Functions of the translation as Lean functions, each with a proof that a call answers so; out of the seat, by this claim's own program prt.py. -/
import Derived.Test.YtfeloencepgdlaaGreatDoorWRepsOne
import Derived.Test.YtfeloencepgdlaaGreatDoorQx0
import Derived.Test.YtfeloencepgdlaaGreatDoorQx22
import Derived.Test.YtfeloencepgdlaaGreatDoorQx24
import Derived.Test.YtfeloencepgdlaaGreatDoorQStep
namespace Go.Proofs.YtfeloencepgdlaaGreatDoor.Q
open Go.RowKit Go.Proofs.YtfeloencepgdlaaGreatDoorW.PrintWords Go.Proofs.YtfeloencepgdlaaGreatDoorW.PrintLast Go.Proofs.YtfeloencepgdlaaGreatDoorW.PrintMore
attribute [local go_sem] max2_int min2_int max_two min_two max_three min_three max_four min_four   -- for this text's walks alone
set_option linter.unusedVariables false
set_option linter.unusedSimpArgs false

/-! ### impl_areLabels_1: function 48 -/
def impl_areLabels_1.f (k : Nat) (a0 : ByteArray) : Option (Bool) := (strings_CutPrefix.f a0 (⟨#[108, 101, 110, 40]⟩ : ByteArray)).bind fun bt338 => (if bt338.2 = true then ((strings_TrimSuffix.f bt338.1 (⟨#[41]⟩ : ByteArray)).bind fun t340 => (if t340.size + 1 ≤ 9223372036854775807 then (if bt338.1.toList = (t340 ++ (⟨#[41]⟩ : ByteArray)).toList then ((impl_kindOf.f k t340).bind fun t341 => (some (t341 != 1))) else (some true)) else (none))) else ((impl_kindOf.f k a0).bind fun t342 => (some (t342 != 1))))
theorem impl_areLabels_1.mono : ∀ a0 k, LeO (impl_areLabels_1.f k a0) (impl_areLabels_1.f (k + 1) a0) := by
 intro a0 k; unfold impl_areLabels_1.f
 repeat' first
   | (with_reducible exact impl_kindOf.mono _ _)
   | (with_reducible exact LeO.refl _)
   | (with_reducible exact LeO.none _)
   | (with_reducible refine LeO.ite ?_ ?_)
   | (with_reducible refine LeO.bind ?_ (fun _ => ?_))
   | exact impl_kindOf.mono _ _
   | exact LeO.none _
   | refine LeO.ite ?_ ?_
   | refine LeO.bind ?_ (fun _ => ?_)
set_option maxHeartbeats 8000000 in
set_option maxRecDepth 100000 in
theorem impl_areLabels_1.calls (k : Nat) (a0 : ByteArray) (r : Bool) (w : World) (hG1 : GL1 w) (hG2 : GL2 w) (hG3 : GL3 w) (hG4 : GL4 w) (h : impl_areLabels_1.f k a0 = some r) :
  Calls Tryz.prog 48 #[.string a0] w fun e w' => e = .returned (.bool r) ∧ Below w.heap.size w w' := by
 have HB := Aside0.mk (Below.refl w.heap.size w); have HG1 := Aside0.mk hG1; clear hG1; have HG2 := Aside0.mk hG2; clear hG2; have HG3 := Aside0.mk hG3; clear hG3; have HG4 := Aside0.mk hG4; clear hG4; have H : ((strings_CutPrefix.f a0 (⟨#[108, 101, 110, 40]⟩ : ByteArray)).bind fun bt338 => (if bt338.2 = true then ((strings_TrimSuffix.f bt338.1 (⟨#[41]⟩ : ByteArray)).bind fun t340 => (if t340.size + 1 ≤ 9223372036854775807 then (if bt338.1.toList = (t340 ++ (⟨#[41]⟩ : ByteArray)).toList then ((impl_kindOf.f k t340).bind fun t341 => (some (t341 != 1))) else (some true)) else (none))) else ((impl_kindOf.f k a0).bind fun t342 => (some (t342 != 1))))) = some r := h; clear h; replace H := Option.bind_eq_some_iff.mp H; obtain ⟨⟨t338, t339⟩, A20, H⟩ := H; (try dsimp only at H); have A2 := Aside0.mk A20; clear A20
 by_cases c3 : t339 = true
 ·
  subst c3; have H1 := ifp_ H
  clear H; have H := H1; clear H1; replace H := Option.bind_eq_some_iff.mp H; obtain ⟨t340, A40, H⟩ := H; (try dsimp only at H); have A4 := Aside0.mk A40; clear A40
  by_cases c5 : t340.size + 1 ≤ 9223372036854775807
  ·
   rw [if_pos c5] at H; have c5b0 := eq_true c5; have c5b1 : decide (t340.size + 1 ≤ 9223372036854775807) = true := decide_eq_true c5
   try have c5b2 : (9223372036854775807 < t340.size + 1) = False := eq_false (Nat.not_lt.2 c5)
   by_cases c6 : t338.toList = (t340 ++ (⟨#[41]⟩ : ByteArray)).toList
   ·
    rw [if_pos c6] at H; have c6b0 : (t338.toList == (t340 ++ (⟨#[41]⟩ : ByteArray)).toList) = true := beq_iff_eq.mpr c6; have c6b1 : (t338.toList != (t340 ++ (⟨#[41]⟩ : ByteArray)).toList) = false := bne_eq_false_iff_eq.mpr c6; clear c6; replace H := Option.bind_eq_some_iff.mp H; obtain ⟨t341, A70, H⟩ := H; replace H : (some (t341 != 1)) = some r := H; have A7 := Aside0.mk A70; clear A70; obtain rfl := Option.some.inj H
    go_enter Tryz.func48, Tryz.ntmps48
    go_wp2_with (first | ((with_reducible refine gate_callee (f := 49) rfl ?_); refine gl_ 7 Tryz.func49 #[.string a0, .string (⟨#[108, 101, 110, 40]⟩ : ByteArray)] (h := ?_); (with_reducible refine (strings_CutPrefix.calls a0 (⟨#[108, 101, 110, 40]⟩ : ByteArray) t338 true _ A2.out).mono ?_); rintro e w' ⟨rfl, ⟨nd, rfl⟩⟩; refine ⟨_, rfl, ?_⟩) | ((with_reducible refine gate_callee (f := 50) rfl ?_); refine gl_ 12 Tryz.func50 #[.string t338, .string (⟨#[41]⟩ : ByteArray)] (h := ?_); (with_reducible refine (strings_TrimSuffix.calls t338 (⟨#[41]⟩ : ByteArray) t340 _ A4.out).mono ?_); rintro e w' ⟨rfl, ⟨nd, rfl⟩⟩; refine ⟨_, rfl, ?_⟩) | (go_at_call 51; (with_reducible refine (impl_kindOf.calls k t340 t341 _ ?side1 ?side2 ?side3 ?side4 A7.out).mono ?_); (case side1 => exact GL1.below HG1.out (sq_below HB.out)); (case side2 => exact GL2.below HG2.out (sq_below HB.out)); (case side3 => exact GL3.below HG3.out (sq_below HB.out)); (case side4 => exact GL4.below HG4.out (sq_below HB.out)); rintro e w8 ⟨rfl, hb⟩; replace HB := hb_ HB hb; (try clear hb)))
    go_ret
    exact ⟨by first | rfl | (simp [errW_none, errW_some] <;> rfl) | (simp [*, errW_none, errW_some] <;> rfl), sq_below HB.out⟩
   ·
    rw [if_neg c6] at H; have c6b0 : (t338.toList == (t340 ++ (⟨#[41]⟩ : ByteArray)).toList) = false := beq_eq_false_iff_ne.mpr c6; have c6b1 : (t338.toList != (t340 ++ (⟨#[41]⟩ : ByteArray)).toList) = true := bne_iff_ne.mpr c6; obtain rfl := Option.some.inj H
    go_enter Tryz.func48, Tryz.ntmps48
    go_wp2_with (first | ((with_reducible refine gate_callee (f := 49) rfl ?_); refine gl_ 7 Tryz.func49 #[.string a0, .string (⟨#[108, 101, 110, 40]⟩ : ByteArray)] (h := ?_); (with_reducible refine (strings_CutPrefix.calls a0 (⟨#[108, 101, 110, 40]⟩ : ByteArray) t338 true _ A2.out).mono ?_); rintro e w' ⟨rfl, ⟨nd, rfl⟩⟩; refine ⟨_, rfl, ?_⟩) | ((with_reducible refine gate_callee (f := 50) rfl ?_); refine gl_ 12 Tryz.func50 #[.string t338, .string (⟨#[41]⟩ : ByteArray)] (h := ?_); (with_reducible refine (strings_TrimSuffix.calls t338 (⟨#[41]⟩ : ByteArray) t340 _ A4.out).mono ?_); rintro e w' ⟨rfl, ⟨nd, rfl⟩⟩; refine ⟨_, rfl, ?_⟩))
    go_ret
    exact ⟨by first | rfl | (simp [errW_none, errW_some] <;> rfl) | (simp [*, errW_none, errW_some] <;> rfl), sq_below HB.out⟩
  ·
   rw [if_neg c5] at H; exact absurd H (by simp)
 ·
  replace c3 := Bool.eq_false_iff.mpr c3; subst c3; have H1 := ifn_ H
  clear H; have H := H1; clear H1; replace H := Option.bind_eq_some_iff.mp H; obtain ⟨t342, A90, H⟩ := H; replace H : (some (t342 != 1)) = some r := H; have A9 := Aside0.mk A90; clear A90; obtain rfl := Option.some.inj H
  go_enter Tryz.func48, Tryz.ntmps48
  go_wp2_with (first | ((with_reducible refine gate_callee (f := 49) rfl ?_); refine gl_ 7 Tryz.func49 #[.string a0, .string (⟨#[108, 101, 110, 40]⟩ : ByteArray)] (h := ?_); (with_reducible refine (strings_CutPrefix.calls a0 (⟨#[108, 101, 110, 40]⟩ : ByteArray) t338 false _ A2.out).mono ?_); rintro e w' ⟨rfl, ⟨nd, rfl⟩⟩; refine ⟨_, rfl, ?_⟩) | ((with_reducible refine gate_callee (f := 51) rfl ?_); refine gl_ 23 Tryz.func51 #[.string a0] (h := ?_); (with_reducible refine (impl_kindOf.calls k a0 t342 _ ?side1 ?side2 ?side3 ?side4 A9.out).mono ?_); (case side1 => exact GL1.below HG1.out (sq_below HB.out)); (case side2 => exact GL2.below HG2.out (sq_below HB.out)); (case side3 => exact GL3.below HG3.out (sq_below HB.out)); (case side4 => exact GL4.below HG4.out (sq_below HB.out)); rintro e w10 ⟨rfl, hb⟩; refine ⟨_, rfl, ?_⟩; replace HB := hb_ HB hb; (try clear hb)))
  go_ret
  exact ⟨by first | rfl | (simp [errW_none, errW_some] <;> rfl) | (simp [*, errW_none, errW_some] <;> rfl), sq_below HB.out⟩

/-! ### slices_IndexFunc__impl_areLabels_1: function 69 -/
def slices_IndexFunc__impl_areLabels_1.l0 : Nat → List ByteArray → Int → Int → Option (Int)
 | 0, _, _, _ => none
 | k + 1, x0, x7, x8 => if x8 < x7 then (if 0 ≤ x8 then (if x8 < (x0.length : Int) then ((impl_areLabels_1.f k (rdOf ByteArray.empty x0 x8)).bind fun t344 => (if t344 = true then (some x8) else (slices_IndexFunc__impl_areLabels_1.l0 k x0 x7 (wrap64 (x8 + 1))))) else (none)) else (none)) else (some (-1))
def slices_IndexFunc__impl_areLabels_1.f (k : Nat) (l0 : List ByteArray)  : Option (Int) := slices_IndexFunc__impl_areLabels_1.l0 k l0 (l0.length : Int) 0
theorem slices_IndexFunc__impl_areLabels_1.mono_l : ∀ k, (∀ y0 y1 y2, LeO (slices_IndexFunc__impl_areLabels_1.l0 k y0 y1 y2) (slices_IndexFunc__impl_areLabels_1.l0 (k + 1) y0 y1 y2))
 | 0 => fun _ _ _ r h => by simp [slices_IndexFunc__impl_areLabels_1.l0] at h
 | k + 1 => by
  have ih0 := slices_IndexFunc__impl_areLabels_1.mono_l k
  ·
   intro y0 y1 y2; unfold slices_IndexFunc__impl_areLabels_1.l0
   repeat' first
   | (with_reducible exact ih0 _ _ _)
   | (with_reducible exact impl_areLabels_1.mono _ _)
   | (with_reducible exact LeO.refl _)
   | (with_reducible exact LeO.none _)
   | (with_reducible refine LeO.ite ?_ ?_)
   | (with_reducible refine LeO.bind ?_ (fun _ => ?_))
   | exact ih0 _ _ _
   | exact impl_areLabels_1.mono _ _
   | exact LeO.none _
   | refine LeO.ite ?_ ?_
   | refine LeO.bind ?_ (fun _ => ?_)
theorem slices_IndexFunc__impl_areLabels_1.mono : ∀ a0 k, LeO (slices_IndexFunc__impl_areLabels_1.f k a0) (slices_IndexFunc__impl_areLabels_1.f (k + 1) a0) := by
 intro a0 k; have ih0 := slices_IndexFunc__impl_areLabels_1.mono_l k; unfold slices_IndexFunc__impl_areLabels_1.f
 repeat' first
   | (with_reducible exact ih0 _ _ _)
   | (with_reducible exact impl_areLabels_1.mono _ _)
   | (with_reducible exact LeO.refl _)
   | (with_reducible exact LeO.none _)
   | (with_reducible refine LeO.ite ?_ ?_)
   | (with_reducible refine LeO.bind ?_ (fun _ => ?_))
   | exact ih0 _ _ _
   | exact impl_areLabels_1.mono _ _
   | exact LeO.none _
   | refine LeO.ite ?_ ?_
   | refine LeO.bind ?_ (fun _ => ?_)
set_option maxHeartbeats 8000000 in
set_option maxRecDepth 100000 in
theorem slices_IndexFunc__impl_areLabels_1.calls (k : Nat) (A0 : Option Addr) (c0 : Nat) (l0 : List ByteArray)  (r : Int) (w : World) (hG1 : GL1 w) (hG2 : GL2 w) (hG3 : GL3 w) (hG4 : GL4 w) (hr0 : Kd.C Kd.string w A0 l0.length l0) (hc0 : l0.length ≤ c0) (h : slices_IndexFunc__impl_areLabels_1.f k l0 = some r) :
  Calls Tryz.prog 69 #[.slice A0 l0.length c0, .func (.func 48) #[] #[]] w fun e w' => e = .returned (.int .i64 r) ∧ Below w.heap.size w w' := by
 have HR0 := Aside0.mk hr0; have HC0 := Aside0.mk hc0; clear hr0 hc0; have HB := Aside0.mk (Below.refl w.heap.size w); have HG1 := Aside0.mk hG1; clear hG1; have HG2 := Aside0.mk hG2; clear hG2; have HG3 := Aside0.mk hG3; clear hG3; have HG4 := Aside0.mk hG4; clear hG4; have H : (slices_IndexFunc__impl_areLabels_1.l0 k l0 (l0.length : Int) 0) = some r := h; clear h; have H' := Aside0.mk H; clear H
 go_enter Tryz.func69, Tryz.ntmps69
 go_wp2
 go_loopg [8] k (fun kq v8 w' => ∃ (x8_1 : Int), v8 = .int .i64 x8_1 ∧ Aside0 (slices_IndexFunc__impl_areLabels_1.l0 kq l0 (l0.length : Int) x8_1 = some r) ∧ Aside0 (kq ≤ k) ∧ Aside0 (Below w.heap.size w w'))
 case atStart => exact ⟨(0), (by first | rfl | (simp; done) | (simp [*]; done)), H', ⟨Nat.le_refl _⟩, ⟨sq_below HB.out⟩⟩
 case round =>
  clear H'
  try clear p2
  obtain ⟨x8_1, rfl, HA, HK1, HB⟩ := hrel; cases gk with
  | zero => exact absurd HA.out (by simp [slices_IndexFunc__impl_areLabels_1.l0])
  | succ k1 =>
   have H := HA.out; clear HA; simp only [slices_IndexFunc__impl_areLabels_1.l0] at H
   by_cases c3 : x8_1 < (l0.length : Int)
   ·
    rw [if_pos c3] at H; have c3b0 : decide (x8_1 < (l0.length : Int)) = true := decide_eq_true c3; clear c3
    by_cases c4 : 0 ≤ x8_1
    ·
     rw [if_pos c4] at H; have c4b0 : decide (0 ≤ x8_1) = true := decide_eq_true c4; clear c4
     by_cases c5 : x8_1 < (l0.length : Int)
     ·
      rw [if_pos c5] at H; have c5b0 : decide (x8_1 < (l0.length : Int)) = true := decide_eq_true c5; clear c5; replace H := Option.bind_eq_some_iff.mp H; obtain ⟨t344, A60, H⟩ := H; (try dsimp only at H); have A6 := Aside0.mk A60; clear A60
      by_cases c7 : t344 = true
      ·
       subst c7; have H1 := ifp_ H
       clear H; have H := H1; clear H1; obtain rfl := Option.some.inj H; have p343 : 0 ≤ (x8_1 : Int) := sq_dec; have q343 : x8_1 < (l0.length : Int) := sq_dec; obtain ⟨ad343, e343, hx343_0⟩ := Kd.at_string HR0.out x8_1 p343 q343; cases e343; replace hx343_0 := (HB.out.cell (World.block_lt_of_cell? w _ hx343_0)).trans hx343_0; replace p343 := eq_true p343; replace q343 := eq_true q343
       go_wp2_with (first | (go_at_call 48; (with_reducible refine (impl_areLabels_1.calls k1 (rdOf ByteArray.empty l0 x8_1) true _ ?side1 ?side2 ?side3 ?side4 A6.out).mono ?_); (case side1 => exact GL1.below HG1.out (sq_below HB.out)); (case side2 => exact GL2.below HG2.out (sq_below HB.out)); (case side3 => exact GL3.below HG3.out (sq_below HB.out)); (case side4 => exact GL4.below HG4.out (sq_below HB.out)); rintro e w8 ⟨rfl, hb⟩; replace HB := hb_ HB hb; (try clear hb)))
       go_ret
       exact ⟨by first | rfl | (simp [errW_none, errW_some] <;> rfl) | (simp [*, errW_none, errW_some] <;> rfl), sq_below HB.out⟩
      ·
       replace c7 := Bool.eq_false_iff.mpr c7; subst c7; have H1 := ifn_ H
       clear H; have H := H1; clear H1; have H' := Aside0.mk H; clear H; have p343 : 0 ≤ (x8_1 : Int) := sq_dec; have q343 : x8_1 < (l0.length : Int) := sq_dec; obtain ⟨ad343, e343, hx343_0⟩ := Kd.at_string HR0.out x8_1 p343 q343; cases e343; replace hx343_0 := (HB.out.cell (World.block_lt_of_cell? w _ hx343_0)).trans hx343_0; replace p343 := eq_true p343; replace q343 := eq_true q343
       go_wp2_with (first | (go_at_call 48; (with_reducible refine (impl_areLabels_1.calls k1 (rdOf ByteArray.empty l0 x8_1) false _ ?side1 ?side2 ?side3 ?side4 A6.out).mono ?_); (case side1 => exact GL1.below HG1.out (sq_below HB.out)); (case side2 => exact GL2.below HG2.out (sq_below HB.out)); (case side3 => exact GL3.below HG3.out (sq_below HB.out)); (case side4 => exact GL4.below HG4.out (sq_below HB.out)); rintro e w9 ⟨rfl, hb⟩; replace HB := hb_ HB hb; (try clear hb)))
       go_roundg k1
       case measure => have := HK1.out; omega
       case rel => exact ⟨(wrap64 (x8_1 + 1)), (by first | rfl | (simp; done) | (simp [*]; done)), H', ⟨by have := HK1.out; omega⟩, ⟨sq_below HB.out⟩⟩
     ·
      rw [if_neg c5] at H; exact absurd H (by simp)
    ·
     rw [if_neg c4] at H; exact absurd H (by simp)
   ·
    rw [if_neg c3] at H; have c3b0 : decide (x8_1 < (l0.length : Int)) = false := decide_eq_false c3; clear c3; obtain rfl := Option.some.inj H
    go_wp2
    go_ret
    exact ⟨by first | rfl | (simp [errW_none, errW_some] <;> rfl) | (simp [*, errW_none, errW_some] <;> rfl), sq_below HB.out⟩

/-! ### slices_ContainsFunc__impl_areLabels_1: function 47 -/
def slices_ContainsFunc__impl_areLabels_1.f (k : Nat) (l0 : List ByteArray)  : Option (Bool) := (slices_IndexFunc__impl_areLabels_1.f k l0).bind fun t345 => (some (decide (t345 ≥ 0)))
theorem slices_ContainsFunc__impl_areLabels_1.mono : ∀ a0 k, LeO (slices_ContainsFunc__impl_areLabels_1.f k a0) (slices_ContainsFunc__impl_areLabels_1.f (k + 1) a0) := by
 intro a0 k; unfold slices_ContainsFunc__impl_areLabels_1.f
 repeat' first
   | (with_reducible exact slices_IndexFunc__impl_areLabels_1.mono _ _)
   | (with_reducible exact LeO.refl _)
   | (with_reducible exact LeO.none _)
   | (with_reducible refine LeO.ite ?_ ?_)
   | (with_reducible refine LeO.bind ?_ (fun _ => ?_))
   | exact slices_IndexFunc__impl_areLabels_1.mono _ _
   | exact LeO.none _
   | refine LeO.ite ?_ ?_
   | refine LeO.bind ?_ (fun _ => ?_)
set_option maxHeartbeats 8000000 in
set_option maxRecDepth 100000 in
theorem slices_ContainsFunc__impl_areLabels_1.calls (k : Nat) (A0 : Option Addr) (c0 : Nat) (l0 : List ByteArray)  (r : Bool) (w : World) (hG1 : GL1 w) (hG2 : GL2 w) (hG3 : GL3 w) (hG4 : GL4 w) (hr0 : Kd.C Kd.string w A0 l0.length l0) (hc0 : l0.length ≤ c0) (h : slices_ContainsFunc__impl_areLabels_1.f k l0 = some r) :
  Calls Tryz.prog 47 #[.slice A0 l0.length c0, .func (.func 48) #[] #[]] w fun e w' => e = .returned (.bool r) ∧ Below w.heap.size w w' := by
 have HR0 := Aside0.mk hr0; have HC0 := Aside0.mk hc0; clear hr0 hc0; have HB := Aside0.mk (Below.refl w.heap.size w); have HG1 := Aside0.mk hG1; clear hG1; have HG2 := Aside0.mk hG2; clear hG2; have HG3 := Aside0.mk hG3; clear hG3; have HG4 := Aside0.mk hG4; clear hG4; have H : ((slices_IndexFunc__impl_areLabels_1.f k l0).bind fun t345 => (some (decide (t345 ≥ 0)))) = some r := h; clear h; replace H := Option.bind_eq_some_iff.mp H; obtain ⟨t345, A30, H⟩ := H; replace H : (some (decide (t345 ≥ 0))) = some r := H; have A3 := Aside0.mk A30; clear A30; obtain rfl := Option.some.inj H
 go_enter Tryz.func47, Tryz.ntmps47
 go_wp2_with (first | ((with_reducible refine gate_callee (f := 69) rfl ?_); refine gl_ 7 Tryz.func69 #[.slice A0 l0.length c0, .func (.func 48) #[] #[]] (h := ?_); (with_reducible refine (slices_IndexFunc__impl_areLabels_1.calls k _ _ l0  t345 _ ?side3 ?side4 ?side5 ?side6 ?side1 ?side2 A3.out).mono ?_); (case side1 => repeat (first | exact HR0.out | (with_reducible refine Kd.C_alloc ?_ _) | (with_reducible refine Kd.C_drewN ?_ _) | (with_reducible refine Kd.C_drew ?_))); (case side2 => exact HC0.out); (case side3 => exact GL1.below HG1.out (sq_below HB.out)); (case side4 => exact GL2.below HG2.out (sq_below HB.out)); (case side5 => exact GL3.below HG3.out (sq_below HB.out)); (case side6 => exact GL4.below HG4.out (sq_below HB.out)); rintro e w4 ⟨rfl, hb⟩; refine ⟨_, rfl, ?_⟩; replace HB := hb_ HB hb; (try clear hb)))
 go_ret
 exact ⟨by first | rfl | (simp [errW_none, errW_some] <;> rfl) | (simp [*, errW_none, errW_some] <;> rfl), sq_below HB.out⟩

/-! ### impl_areLabels: function 22 -/
def impl_areLabels.f (k : Nat) (l0 : List ByteArray) (a1 : Int) : Option (Bool) := if (l0.length : Int) = a1 then ((slices_ContainsFunc__impl_areLabels_1.f k l0).bind fun t346 => (some (!t346))) else (some false)
theorem impl_areLabels.mono : ∀ a0 a1 k, LeO (impl_areLabels.f k a0 a1) (impl_areLabels.f (k + 1) a0 a1) := by
 intro a0 a1 k; unfold impl_areLabels.f
 repeat' first
   | (with_reducible exact slices_ContainsFunc__impl_areLabels_1.mono _ _)
   | (with_reducible exact LeO.refl _)
   | (with_reducible exact LeO.none _)
   | (with_reducible refine LeO.ite ?_ ?_)
   | (with_reducible refine LeO.bind ?_ (fun _ => ?_))
   | exact slices_ContainsFunc__impl_areLabels_1.mono _ _
   | exact LeO.none _
   | refine LeO.ite ?_ ?_
   | refine LeO.bind ?_ (fun _ => ?_)
set_option maxHeartbeats 8000000 in
set_option maxRecDepth 100000 in
theorem impl_areLabels.calls (k : Nat) (A0 : Option Addr) (c0 : Nat) (l0 : List ByteArray) (a1 : Int) (r : Bool) (w : World) (hG1 : GL1 w) (hG2 : GL2 w) (hG3 : GL3 w) (hG4 : GL4 w) (hr0 : Kd.C Kd.string w A0 l0.length l0) (hc0 : l0.length ≤ c0) (h : impl_areLabels.f k l0 a1 = some r) :
  Calls Tryz.prog 22 #[.slice A0 l0.length c0, .int .i64 a1] w fun e w' => e = .returned (.bool r) ∧ Below w.heap.size w w' := by
 have HR0 := Aside0.mk hr0; have HC0 := Aside0.mk hc0; clear hr0 hc0; have HB := Aside0.mk (Below.refl w.heap.size w); have HG1 := Aside0.mk hG1; clear hG1; have HG2 := Aside0.mk hG2; clear hG2; have HG3 := Aside0.mk hG3; clear hG3; have HG4 := Aside0.mk hG4; clear hG4; have H : (if (l0.length : Int) = a1 then ((slices_ContainsFunc__impl_areLabels_1.f k l0).bind fun t346 => (some (!t346))) else (some false)) = some r := h; clear h
 by_cases c3 : (l0.length : Int) = a1
 ·
  rw [if_pos c3] at H; have c3b0 : ((l0.length : Int) == a1) = true := beq_iff_eq.mpr c3; have c3b1 : ((l0.length : Int) != a1) = false := bne_eq_false_iff_eq.mpr c3; clear c3; replace H := Option.bind_eq_some_iff.mp H; obtain ⟨t346, A40, H⟩ := H; replace H : (some (!t346)) = some r := H; have A4 := Aside0.mk A40; clear A40; obtain rfl := Option.some.inj H
  go_enter Tryz.func22, Tryz.ntmps22
  go_wp2_with (first | (go_at_call 47; (with_reducible refine (slices_ContainsFunc__impl_areLabels_1.calls k _ _ l0  t346 _ ?side3 ?side4 ?side5 ?side6 ?side1 ?side2 A4.out).mono ?_); (case side1 => repeat (first | exact HR0.out | (with_reducible refine Kd.C_alloc ?_ _) | (with_reducible refine Kd.C_drewN ?_ _) | (with_reducible refine Kd.C_drew ?_))); (case side2 => exact HC0.out); (case side3 => exact GL1.below HG1.out (sq_below HB.out)); (case side4 => exact GL2.below HG2.out (sq_below HB.out)); (case side5 => exact GL3.below HG3.out (sq_below HB.out)); (case side6 => exact GL4.below HG4.out (sq_below HB.out)); rintro e w5 ⟨rfl, hb⟩; replace HB := hb_ HB hb; (try clear hb)))
  go_ret
  exact ⟨by first | rfl | (simp [errW_none, errW_some] <;> rfl) | (simp [*, errW_none, errW_some] <;> rfl), sq_below HB.out⟩
 ·
  rw [if_neg c3] at H; have c3b0 : ((l0.length : Int) == a1) = false := beq_eq_false_iff_ne.mpr c3; have c3b1 : ((l0.length : Int) != a1) = true := bne_iff_ne.mpr c3; obtain rfl := Option.some.inj H
  go_enter Tryz.func22, Tryz.ntmps22
  go_wp2
  go_ret
  exact ⟨by first | rfl | (simp [errW_none, errW_some] <;> rfl) | (simp [*, errW_none, errW_some] <;> rfl), sq_below HB.out⟩

/-! ### strconv_Itoa: function 79 -/
def strconv_Itoa.f (a0 : Int) : Option ByteArray := if -9223372036854775808 ≤ a0 ∧ a0 ≤ 9223372036854775807 then some ⟨(Lib.itoa a0).toArray⟩ else none
theorem strconv_Itoa.calls (a0 : Int) (r : ByteArray) (w : World) (hG4 : GL4 w) (h : strconv_Itoa.f a0 = some r) :
  Calls Tryz.prog 79 #[.int .i64 a0] w fun e w' => e = .returned (.string r) ∧ Below w.heap.size w w' := by
 unfold strconv_Itoa.f at h
 split at h
 ·
  rename_i hr
  injection h with h
  subst h; refine (Tryz.strconv_Itoa a0 hr.1 hr.2 w hG4).mono ?_; rintro e w' ⟨rfl, k, os, rfl⟩; exact ⟨rfl, Lib.below_grow _ w (Nat.le_refl _) k os⟩
 ·
  cases h

end Go.Proofs.YtfeloencepgdlaaGreatDoor.Q
