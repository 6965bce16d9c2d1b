/- Functions of the translation as Lean functions, each with a proof that a call answers so; out of the seat, by this claim's own program prt.py. -/
import Derived.Test.YtfeloencepgdlaaDoorWRepsOne
import Derived.Test.YtfeloencepgdlaaDoorQx0
import Derived.Test.YtfeloencepgdlaaDoorQx9
import Derived.Test.YtfeloencepgdlaaDoorQx31
import Derived.Test.YtfeloencepgdlaaDoorQStep
namespace Go.Proofs.YtfeloencepgdlaaDoor.Q
open Go.RowKit Go.Proofs.YtfeloencepgdlaaDoorW.PrintWords Go.Proofs.YtfeloencepgdlaaDoorW.PrintLast Go.Proofs.YtfeloencepgdlaaDoorW.PrintMore
attribute [local go_sem] max2_int min2_int max_two min_two max_three min_three max_four min_four   -- for this text's walks alone
set_option linter.unusedVariables false
set_option linter.unusedSimpArgs false

/-! ### slices_IndexFunc__impl_valsOk_1: function 86 -/
def slices_IndexFunc__impl_valsOk_1.l0 : Nat → List Int → Int → Int → Option (Int)
 | 0, _, _, _ => none
 | k + 1, x0, x7, x8 => if x8 < x7 then (if 0 ≤ x8 then (if x8 < (x0.length : Int) then ((impl_valsOk_1.f (rd x0 x8)).bind fun t366 => (if t366 = true then (some x8) else (slices_IndexFunc__impl_valsOk_1.l0 k x0 x7 (wrap64 (x8 + 1))))) else (none)) else (none)) else (some (-1))
def slices_IndexFunc__impl_valsOk_1.f (k : Nat) (l0 : List Int)  : Option (Int) := slices_IndexFunc__impl_valsOk_1.l0 k l0 (l0.length : Int) 0
theorem slices_IndexFunc__impl_valsOk_1.mono_l : ∀ k, (∀ y0 y1 y2, LeO (slices_IndexFunc__impl_valsOk_1.l0 k y0 y1 y2) (slices_IndexFunc__impl_valsOk_1.l0 (k + 1) y0 y1 y2))
 | 0 => fun _ _ _ r h => by simp [slices_IndexFunc__impl_valsOk_1.l0] at h
 | k + 1 => by
  have ih0 := slices_IndexFunc__impl_valsOk_1.mono_l k
  ·
   intro y0 y1 y2; unfold slices_IndexFunc__impl_valsOk_1.l0
   repeat' first
   | (with_reducible exact ih0 _ _ _)
   | (with_reducible exact LeO.refl _)
   | (with_reducible exact LeO.none _)
   | (with_reducible refine LeO.ite ?_ ?_)
   | (with_reducible refine LeO.bind ?_ (fun _ => ?_))
   | exact ih0 _ _ _
   | exact LeO.none _
   | refine LeO.ite ?_ ?_
   | refine LeO.bind ?_ (fun _ => ?_)
theorem slices_IndexFunc__impl_valsOk_1.mono : ∀ a0 k, LeO (slices_IndexFunc__impl_valsOk_1.f k a0) (slices_IndexFunc__impl_valsOk_1.f (k + 1) a0) := by
 intro a0 k; have ih0 := slices_IndexFunc__impl_valsOk_1.mono_l k; unfold slices_IndexFunc__impl_valsOk_1.f
 repeat' first
   | (with_reducible exact ih0 _ _ _)
   | (with_reducible exact LeO.refl _)
   | (with_reducible exact LeO.none _)
   | (with_reducible refine LeO.ite ?_ ?_)
   | (with_reducible refine LeO.bind ?_ (fun _ => ?_))
   | exact ih0 _ _ _
   | exact LeO.none _
   | refine LeO.ite ?_ ?_
   | refine LeO.bind ?_ (fun _ => ?_)
set_option maxHeartbeats 8000000 in
set_option maxRecDepth 100000 in
theorem slices_IndexFunc__impl_valsOk_1.calls (k : Nat) (A0 : Option Addr) (c0 : Nat) (l0 : List Int)  (r : Int) (w : World) (hr0 : Kd.C (Kd.int .i64) w A0 l0.length l0) (hc0 : l0.length ≤ c0) (h : slices_IndexFunc__impl_valsOk_1.f k l0 = some r) :
  Calls Tryd.prog 86 #[.slice A0 l0.length c0, .func (.func 70) #[] #[]] w fun e w' => e = .returned (.int .i64 r) ∧ Drawn0 w w' := by
 have HR0 := Aside0.mk hr0; have HC0 := Aside0.mk hc0; clear hr0 hc0; have H : (slices_IndexFunc__impl_valsOk_1.l0 k l0 (l0.length : Int) 0) = some r := h; clear h; have H' := Aside0.mk H; clear H
 go_enter Tryd.func86, Tryd.ntmps86
 go_wp2
 go_loopg [8] k (fun kq v8 w' => ∃ (x8_1 : Int), v8 = .int .i64 x8_1 ∧ Aside0 (slices_IndexFunc__impl_valsOk_1.l0 kq l0 (l0.length : Int) x8_1 = some r) ∧ Aside0 (kq ≤ k) ∧ Drawn0 w w')
 case atStart => exact ⟨(0), (by first | rfl | (simp; done) | (simp [*]; done)), H', ⟨Nat.le_refl _⟩, by repeat (first | exact Drawn0.refl _ | apply Drawn0.step)⟩
 case round =>
  clear H'
  try clear p2
  obtain ⟨x8_1, rfl, HA, HK1, ⟨m1, rfl⟩⟩ := hrel; cases gk with
  | zero => exact absurd HA.out (by simp [slices_IndexFunc__impl_valsOk_1.l0])
  | succ k1 =>
   have H := HA.out; clear HA; simp only [slices_IndexFunc__impl_valsOk_1.l0] at H
   by_cases c3 : x8_1 < (l0.length : Int)
   ·
    rw [if_pos c3] at H; have c3b0 : decide (x8_1 < (l0.length : Int)) = true := decide_eq_true c3; clear c3
    by_cases c4 : 0 ≤ x8_1
    ·
     rw [if_pos c4] at H; have c4b0 : decide (0 ≤ x8_1) = true := decide_eq_true c4; clear c4
     by_cases c5 : x8_1 < (l0.length : Int)
     ·
      rw [if_pos c5] at H; have c5b0 : decide (x8_1 < (l0.length : Int)) = true := decide_eq_true c5; clear c5; replace H := Option.bind_eq_some_iff.mp H; obtain ⟨t366, A60, H⟩ := H; (try dsimp only at H); have A6 := Aside0.mk A60; clear A60
      by_cases c7 : t366 = true
      ·
       subst c7; have H1 := ifp_ H
       clear H; have H := H1; clear H1; obtain rfl := Option.some.inj H; have p365 : 0 ≤ (x8_1 : Int) := sq_dec; have q365 : x8_1 < (l0.length : Int) := sq_dec; obtain ⟨ad365, e365, hx365_0⟩ := Kd.at_int HR0.out x8_1 p365 q365; cases e365; replace p365 := eq_true p365; replace q365 := eq_true q365
       go_wp2_with (first | (go_at_call 70; (with_reducible refine (impl_valsOk_1.calls (rd l0 x8_1) true _ A6.out).mono ?_); rintro e w' ⟨rfl, ⟨nd, rfl⟩⟩))
       go_ret
       exact ⟨by first | rfl | (simp; done) | (simp [*]; done), by repeat (first | exact Drawn0.refl _ | apply Drawn0.step)⟩
      ·
       replace c7 := Bool.eq_false_iff.mpr c7; subst c7; have H1 := ifn_ H
       clear H; have H := H1; clear H1; have H' := Aside0.mk H; clear H; have p365 : 0 ≤ (x8_1 : Int) := sq_dec; have q365 : x8_1 < (l0.length : Int) := sq_dec; obtain ⟨ad365, e365, hx365_0⟩ := Kd.at_int HR0.out x8_1 p365 q365; cases e365; replace p365 := eq_true p365; replace q365 := eq_true q365
       go_wp2_with (first | (go_at_call 70; (with_reducible refine (impl_valsOk_1.calls (rd l0 x8_1) false _ A6.out).mono ?_); rintro e w' ⟨rfl, ⟨nd, rfl⟩⟩))
       go_roundg k1
       case measure => have := HK1.out; omega
       case rel => exact ⟨(wrap64 (x8_1 + 1)), (by first | rfl | (simp; done) | (simp [*]; done)), H', ⟨by have := HK1.out; omega⟩, by repeat (first | exact Drawn0.refl _ | apply Drawn0.step)⟩
     ·
      rw [if_neg c5] at H; exact absurd H (by simp)
    ·
     rw [if_neg c4] at H; exact absurd H (by simp)
   ·
    rw [if_neg c3] at H; have c3b0 : decide (x8_1 < (l0.length : Int)) = false := decide_eq_false c3; clear c3; obtain rfl := Option.some.inj H
    go_wp2
    go_ret
    exact ⟨by first | rfl | (simp; done) | (simp [*]; done), by repeat (first | exact Drawn0.refl _ | apply Drawn0.step)⟩

/-! ### slices_ContainsFunc__impl_valsOk_1: function 69 -/
def slices_ContainsFunc__impl_valsOk_1.f (k : Nat) (l0 : List Int)  : Option (Bool) := (slices_IndexFunc__impl_valsOk_1.f k l0).bind fun t367 => (some (decide (t367 ≥ 0)))
theorem slices_ContainsFunc__impl_valsOk_1.mono : ∀ a0 k, LeO (slices_ContainsFunc__impl_valsOk_1.f k a0) (slices_ContainsFunc__impl_valsOk_1.f (k + 1) a0) := by
 intro a0 k; unfold slices_ContainsFunc__impl_valsOk_1.f
 repeat' first
   | (with_reducible exact slices_IndexFunc__impl_valsOk_1.mono _ _)
   | (with_reducible exact LeO.refl _)
   | (with_reducible exact LeO.none _)
   | (with_reducible refine LeO.ite ?_ ?_)
   | (with_reducible refine LeO.bind ?_ (fun _ => ?_))
   | exact slices_IndexFunc__impl_valsOk_1.mono _ _
   | exact LeO.none _
   | refine LeO.ite ?_ ?_
   | refine LeO.bind ?_ (fun _ => ?_)
set_option maxHeartbeats 8000000 in
set_option maxRecDepth 100000 in
theorem slices_ContainsFunc__impl_valsOk_1.calls (k : Nat) (A0 : Option Addr) (c0 : Nat) (l0 : List Int)  (r : Bool) (w : World) (hr0 : Kd.C (Kd.int .i64) w A0 l0.length l0) (hc0 : l0.length ≤ c0) (h : slices_ContainsFunc__impl_valsOk_1.f k l0 = some r) :
  Calls Tryd.prog 69 #[.slice A0 l0.length c0, .func (.func 70) #[] #[]] w fun e w' => e = .returned (.bool r) ∧ Drawn0 w w' := by
 have HR0 := Aside0.mk hr0; have HC0 := Aside0.mk hc0; clear hr0 hc0; have H : ((slices_IndexFunc__impl_valsOk_1.f k l0).bind fun t367 => (some (decide (t367 ≥ 0)))) = some r := h; clear h; replace H := Option.bind_eq_some_iff.mp H; obtain ⟨t367, A30, H⟩ := H; replace H : (some (decide (t367 ≥ 0))) = some r := H; have A3 := Aside0.mk A30; clear A30; obtain rfl := Option.some.inj H
 go_enter Tryd.func69, Tryd.ntmps69
 go_wp2_with (first | ((with_reducible refine gate_callee (f := 86) rfl ?_); refine gl_ 7 Tryd.func86 #[.slice A0 l0.length c0, .func (.func 70) #[] #[]] (h := ?_); (with_reducible refine (slices_IndexFunc__impl_valsOk_1.calls k _ _ l0  t367 _ ?side1 ?side2 A3.out).mono ?_); (case side1 => repeat (first | exact HR0.out | (with_reducible refine Kd.C_alloc ?_ _) | (with_reducible refine Kd.C_drewN ?_ _) | (with_reducible refine Kd.C_drew ?_))); (case side2 => exact HC0.out); rintro e w' ⟨rfl, ⟨nd, rfl⟩⟩; refine ⟨_, rfl, ?_⟩))
 go_ret
 exact ⟨by first | rfl | (simp; done) | (simp [*]; done), by repeat (first | exact Drawn0.refl _ | apply Drawn0.step)⟩

/-! ### impl_valsOk: function 46 -/
def impl_valsOk.f (k : Nat) (l0 : List Int) (a1 : Int) : Option (Bool) := if (l0.length : Int) = a1 then ((impl_inRange.f a1 1 13).bind fun t368 => (if t368 = true then (if 0 < (l0.length : Int) then (if (rd l0 0) = 0 then ((slices_ContainsFunc__impl_valsOk_1.f k l0).bind fun t370 => (some (!t370))) else (some false)) else (none)) else (some false))) else (some false)
theorem impl_valsOk.mono : ∀ a0 a1 k, LeO (impl_valsOk.f k a0 a1) (impl_valsOk.f (k + 1) a0 a1) := by
 intro a0 a1 k; unfold impl_valsOk.f
 repeat' first
   | (with_reducible exact slices_ContainsFunc__impl_valsOk_1.mono _ _)
   | (with_reducible exact LeO.refl _)
   | (with_reducible exact LeO.none _)
   | (with_reducible refine LeO.ite ?_ ?_)
   | (with_reducible refine LeO.bind ?_ (fun _ => ?_))
   | exact slices_ContainsFunc__impl_valsOk_1.mono _ _
   | exact LeO.none _
   | refine LeO.ite ?_ ?_
   | refine LeO.bind ?_ (fun _ => ?_)
set_option maxHeartbeats 8000000 in
set_option maxRecDepth 100000 in
theorem impl_valsOk.calls (k : Nat) (A0 : Option Addr) (c0 : Nat) (l0 : List Int) (a1 : Int) (r : Bool) (w : World) (hr0 : Kd.C (Kd.int .i64) w A0 l0.length l0) (hc0 : l0.length ≤ c0) (h : impl_valsOk.f k l0 a1 = some r) :
  Calls Tryd.prog 46 #[.slice A0 l0.length c0, .int .i64 a1] w fun e w' => e = .returned (.bool r) ∧ Drawn0 w w' := by
 have HR0 := Aside0.mk hr0; have HC0 := Aside0.mk hc0; clear hr0 hc0; have H : (if (l0.length : Int) = a1 then ((impl_inRange.f a1 1 13).bind fun t368 => (if t368 = true then (if 0 < (l0.length : Int) then (if (rd l0 0) = 0 then ((slices_ContainsFunc__impl_valsOk_1.f k l0).bind fun t370 => (some (!t370))) else (some false)) else (none)) else (some false))) else (some false)) = some r := h; clear h
 by_cases c3 : (l0.length : Int) = a1
 ·
  rw [if_pos c3] at H; have c3b0 : ((l0.length : Int) == a1) = true := beq_iff_eq.mpr c3; have c3b1 : ((l0.length : Int) != a1) = false := bne_eq_false_iff_eq.mpr c3; clear c3; replace H := Option.bind_eq_some_iff.mp H; obtain ⟨t368, A40, H⟩ := H; (try dsimp only at H); have A4 := Aside0.mk A40; clear A40
  by_cases c5 : t368 = true
  ·
   subst c5; have H1 := ifp_ H
   clear H; have H := H1; clear H1
   by_cases c6 : 0 < (l0.length : Int)
   ·
    rw [if_pos c6] at H; have c6b0 : decide (0 < (l0.length : Int)) = true := decide_eq_true c6; have c6b1 : decide (0 < l0.length) = true := decide_eq_true (by omega); clear c6
    by_cases c7 : (rd l0 0) = 0
    ·
     rw [if_pos c7] at H; have c7b0 : ((rd l0 0) == 0) = true := beq_iff_eq.mpr c7; have c7b1 : ((rd l0 0) != 0) = false := bne_eq_false_iff_eq.mpr c7; clear c7; replace H := Option.bind_eq_some_iff.mp H; obtain ⟨t370, A80, H⟩ := H; replace H : (some (!t370)) = some r := H; have A8 := Aside0.mk A80; clear A80; obtain rfl := Option.some.inj H
     go_enter Tryd.func46, Tryd.ntmps46
     go_wp2_with (first | (go_at_call 32; (with_reducible refine (impl_inRange.calls a1 1 13 true _ A4.out).mono ?_); rintro e w' ⟨rfl, ⟨nd, rfl⟩⟩; have p369 : 0 ≤ (0 : Int) := (by omega); have q369 : 0 < (l0.length : Int) := sq_dec; obtain ⟨ad369, e369, hx369_0⟩ := Kd.at_int HR0.out 0 p369 q369; cases e369; have qi369 : (0 < l0.length) = True := eq_true (by omega); (try rw [show ((0 : Int)).toNat = 0 from rfl] at hx369_0); (try rw [Addr.add_zero'] at hx369_0); replace p369 := eq_true p369; replace q369 := eq_true q369) | (go_at_call 69; (with_reducible refine (slices_ContainsFunc__impl_valsOk_1.calls k _ _ l0  t370 _ ?side1 ?side2 A8.out).mono ?_); (case side1 => repeat (first | exact HR0.out | (with_reducible refine Kd.C_alloc ?_ _) | (with_reducible refine Kd.C_drewN ?_ _) | (with_reducible refine Kd.C_drew ?_))); (case side2 => exact HC0.out); rintro e w' ⟨rfl, ⟨nd, rfl⟩⟩))
     go_ret
     exact ⟨by first | rfl | (simp; done) | (simp [*]; done), by repeat (first | exact Drawn0.refl _ | apply Drawn0.step)⟩
    ·
     rw [if_neg c7] at H; have c7b0 : ((rd l0 0) == 0) = false := beq_eq_false_iff_ne.mpr c7; have c7b1 : ((rd l0 0) != 0) = true := bne_iff_ne.mpr c7; obtain rfl := Option.some.inj H
     go_enter Tryd.func46, Tryd.ntmps46
     go_wp2_with (first | (go_at_call 32; (with_reducible refine (impl_inRange.calls a1 1 13 true _ A4.out).mono ?_); rintro e w' ⟨rfl, ⟨nd, rfl⟩⟩; have p369 : 0 ≤ (0 : Int) := (by omega); have q369 : 0 < (l0.length : Int) := sq_dec; obtain ⟨ad369, e369, hx369_0⟩ := Kd.at_int HR0.out 0 p369 q369; cases e369; have qi369 : (0 < l0.length) = True := eq_true (by omega); (try rw [show ((0 : Int)).toNat = 0 from rfl] at hx369_0); (try rw [Addr.add_zero'] at hx369_0); replace p369 := eq_true p369; replace q369 := eq_true q369))
     go_ret
     exact ⟨by first | rfl | (simp; done) | (simp [*]; done), by repeat (first | exact Drawn0.refl _ | apply Drawn0.step)⟩
   ·
    rw [if_neg c6] at H; exact absurd H (by simp)
  ·
   replace c5 := Bool.eq_false_iff.mpr c5; subst c5; have H1 := ifn_ H
   clear H; have H := H1; clear H1; obtain rfl := Option.some.inj H
   go_enter Tryd.func46, Tryd.ntmps46
   go_wp2_with (first | (go_at_call 32; (with_reducible refine (impl_inRange.calls a1 1 13 false _ A4.out).mono ?_); rintro e w' ⟨rfl, ⟨nd, rfl⟩⟩))
   go_ret
   exact ⟨by first | rfl | (simp; done) | (simp [*]; done), by repeat (first | exact Drawn0.refl _ | apply Drawn0.step)⟩
 ·
  rw [if_neg c3] at H; have c3b0 : ((l0.length : Int) == a1) = false := beq_eq_false_iff_ne.mpr c3; have c3b1 : ((l0.length : Int) != a1) = true := bne_iff_ne.mpr c3; obtain rfl := Option.some.inj H
  go_enter Tryd.func46, Tryd.ntmps46
  go_wp2
  go_ret
  exact ⟨by first | rfl | (simp; done) | (simp [*]; done), by repeat (first | exact Drawn0.refl _ | apply Drawn0.step)⟩

end Go.Proofs.YtfeloencepgdlaaDoor.Q
