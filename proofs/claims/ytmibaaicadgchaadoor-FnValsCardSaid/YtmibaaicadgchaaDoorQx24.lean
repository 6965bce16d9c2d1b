/- Functions of the translation as Lean functions, each with a proof that a call answers so; out of the seat, by this claim's own program prt.py. -/
import Derived.Test.YtmibaaicadgchaaDoorWRepsOne
import Derived.Test.YtmibaaicadgchaaDoorQx0
import Derived.Test.YtmibaaicadgchaaDoorQx3
import Derived.Test.YtmibaaicadgchaaDoorQStep
namespace Go.Proofs.YtmibaaicadgchaaDoor.Q
open Go.RowKit Go.Proofs.YtmibaaicadgchaaDoorW.PrintWords Go.Proofs.YtmibaaicadgchaaDoorW.PrintLast Go.Proofs.YtmibaaicadgchaaDoorW.PrintMore
attribute [local go_sem] max2_int min2_int max_two min_two max_three min_three max_four min_four   -- for this text's walks alone
set_option linter.unusedVariables false
set_option linter.unusedSimpArgs false

/-! ### spec_l06Steps: function 61 -/
def spec_l06Steps.l0 : Nat → List Int → Int → Option (Bool)
 | 0, _, _ => none
 | k + 1, x0, x3 => if x3 < (x0.length : Int) then (if 0 ≤ x3 then ((spec_l05Val.f (rd x0 x3)).bind fun t480 => (if t480 = true then (if x3 > 0 then (if 0 ≤ (wrap64 (x3 - 1)) then (if (wrap64 (x3 - 1)) < (x0.length : Int) then (if (rd x0 (wrap64 (x3 - 1))) ≥ (rd x0 x3) then (some false) else (spec_l06Steps.l0 k x0 (wrap64 (x3 + 1)))) else (none)) else (none)) else (spec_l06Steps.l0 k x0 (wrap64 (x3 + 1)))) else (some false))) else (none)) else (some true)
def spec_l06Steps.f (k : Nat) (l0 : List Int) : Option (Bool) := if (l0.length : Int) > 20 then (some false) else (spec_l06Steps.l0 k l0 0)
theorem spec_l06Steps.mono_l : ∀ k, (∀ y0 y1, LeO (spec_l06Steps.l0 k y0 y1) (spec_l06Steps.l0 (k + 1) y0 y1))
 | 0 => fun _ _ r h => by simp [spec_l06Steps.l0] at h
 | k + 1 => by
  have ih0 := spec_l06Steps.mono_l k
  ·
   intro y0 y1; unfold spec_l06Steps.l0
   repeat' first
   | (with_reducible exact ih0 _ _)
   | (with_reducible exact LeO.refl _)
   | (with_reducible exact LeO.none _)
   | (with_reducible refine LeO.ite ?_ ?_)
   | (with_reducible refine LeO.bind ?_ (fun _ => ?_))
   | exact ih0 _ _
   | exact LeO.none _
   | refine LeO.ite ?_ ?_
   | refine LeO.bind ?_ (fun _ => ?_)
theorem spec_l06Steps.mono : ∀ a0 k, LeO (spec_l06Steps.f k a0) (spec_l06Steps.f (k + 1) a0) := by
 intro a0 k; have ih0 := spec_l06Steps.mono_l k; unfold spec_l06Steps.f
 repeat' first
   | (with_reducible exact ih0 _ _)
   | (with_reducible exact LeO.refl _)
   | (with_reducible exact LeO.none _)
   | (with_reducible refine LeO.ite ?_ ?_)
   | (with_reducible refine LeO.bind ?_ (fun _ => ?_))
   | exact ih0 _ _
   | exact LeO.none _
   | refine LeO.ite ?_ ?_
   | refine LeO.bind ?_ (fun _ => ?_)
set_option maxHeartbeats 8000000 in
set_option maxRecDepth 100000 in
theorem spec_l06Steps.calls (k : Nat) (A0 : Option Addr) (c0 : Nat) (l0 : List Int) (r : Bool) (w : World) (hr0 : Kd.C (Kd.int .i64) w A0 l0.length l0) (hc0 : l0.length ≤ c0) (h : spec_l06Steps.f k l0 = some r) :
  Calls Tryd.prog 61 #[.slice A0 l0.length c0] w fun e w' => e = .returned (.bool r) ∧ Drawn0 w w' := by
 have HR0 := Aside0.mk hr0; have HC0 := Aside0.mk hc0; clear hr0 hc0; have H : (if (l0.length : Int) > 20 then (some false) else (spec_l06Steps.l0 k l0 0)) = some r := h; clear h
 by_cases c2 : (l0.length : Int) > 20
 ·
  rw [if_pos c2] at H; have c2b0 : decide (20 < (l0.length : Int)) = true := decide_eq_true c2; have c2b1 : decide (20 < l0.length) = true := decide_eq_true (by omega); clear c2; obtain rfl := Option.some.inj H
  go_enter Tryd.func61, Tryd.ntmps61
  go_wp2
  repeat (go_quiet (fail); try go_wp2)
  go_ret
  exact ⟨by first | rfl | (simp; done) | (simp [*]; done), by repeat (first | exact Drawn0.refl _ | apply Drawn0.step)⟩
 ·
  rw [if_neg c2] at H; have c2b0 : decide (20 < (l0.length : Int)) = false := decide_eq_false c2; have c2b1 : decide (20 < l0.length) = false := decide_eq_false (by omega); clear c2; have H' := Aside0.mk H; clear H
  go_enter Tryd.func61, Tryd.ntmps61
  go_wp2
  repeat (go_quiet (fail); try go_wp2)
  go_loopg [3] k (fun kq v3 w' => ∃ (x3_1 : Int), v3 = .int .i64 x3_1 ∧ Aside0 (spec_l06Steps.l0 kq l0 x3_1 = some r) ∧ Aside0 (kq ≤ k) ∧ Drawn0 w w')
  case atStart => exact ⟨(0), (by first | rfl | (simp; done) | (simp [*]; done)), H', ⟨Nat.le_refl _⟩, by repeat (first | exact Drawn0.refl _ | apply Drawn0.step)⟩
  case round =>
   clear H'
   try clear c2
   try clear c2b0
   try clear c2b1
   try clear p2
   obtain ⟨x3_1, rfl, HA, HK1, ⟨m1, rfl⟩⟩ := hrel; cases gk with
   | zero => exact absurd HA.out (by simp [spec_l06Steps.l0])
   | succ k1 =>
    have H := HA.out; clear HA; simp only [spec_l06Steps.l0] at H
    by_cases c3 : x3_1 < (l0.length : Int)
    ·
     rw [if_pos c3] at H; have c3b0 : decide (x3_1 < (l0.length : Int)) = true := decide_eq_true c3; clear c3
     by_cases c4 : 0 ≤ x3_1
     ·
      rw [if_pos c4] at H; have c4b0 : decide (0 ≤ x3_1) = true := decide_eq_true c4; clear c4; replace H := Option.bind_eq_some_iff.mp H; obtain ⟨t480, A50, H⟩ := H; (try dsimp only at H); have A5 := Aside0.mk A50; clear A50
      by_cases c6 : t480 = true
      ·
       subst c6; have H1 := ifp_ H
       clear H; have H := H1; clear H1
       by_cases c7 : x3_1 > 0
       ·
        rw [if_pos c7] at H; have c7b0 : decide (0 < x3_1) = true := decide_eq_true c7; clear c7; obtain ⟨ji8, hji8⟩ : ∃ j_ : Int, (wrap64 (x3_1 - 1)) = j_ := ⟨_, rfl⟩; replace H : (if 0 ≤ (ji8) then (if (ji8) < (l0.length : Int) then (if (rd l0 (ji8)) ≥ (rd l0 x3_1) then (some false) else (spec_l06Steps.l0 k1 l0 (wrap64 (x3_1 + 1)))) else (none)) else (none)) = some r := by first | (rw [hji8] at H; exact H) | (simp only [hji8] at H ⊢; exact H)
        (try rw [hji8] at A5)
        have hji8w : (IntKind.i64.wrap (x3_1 - 1)) = ji8 := (i64_w _).trans hji8
        by_cases c9 : 0 ≤ (ji8)
        ·
         rw [if_pos c9] at H; have c9b0 : decide (0 ≤ (ji8)) = true := decide_eq_true c9; clear c9
         by_cases c10 : (ji8) < (l0.length : Int)
         ·
          rw [if_pos c10] at H; have c10b0 : decide ((ji8) < (l0.length : Int)) = true := decide_eq_true c10; clear c10
          by_cases c11 : (rd l0 (ji8)) ≥ (rd l0 x3_1)
          ·
           rw [if_pos c11] at H; have c11b0 : decide ((rd l0 x3_1) ≤ (rd l0 (ji8))) = true := decide_eq_true c11; clear c11; obtain rfl := Option.some.inj H; have p479 : 0 ≤ (x3_1 : Int) := sq_dec; have q479 : x3_1 < (l0.length : Int) := sq_dec; obtain ⟨ad479, e479, hx479_0⟩ := Kd.at_int HR0.out x3_1 p479 q479; cases e479; replace p479 := eq_true p479; replace q479 := eq_true q479
           go_wp2_with (first | (go_at_call 56; (with_reducible refine (spec_l05Val.calls (rd l0 x3_1) true _ A5.out).mono ?_); rintro e w' ⟨rfl, ⟨nd, rfl⟩⟩; (try first | exact ⟨rfl, _, World.drewN_drewN _ _ _⟩ | exact ⟨rfl, _, Eq.trans (World.drewN_drewN _ _ _) (congrArg (World.drewN _) (Nat.add_assoc _ _ _))⟩); have p481 : 0 ≤ ((ji8) : Int) := sq_dec; have q481 : (ji8) < (l0.length : Int) := sq_dec; obtain ⟨ad481, e481, hx481_0⟩ := Kd.at_int HR0.out (ji8) p481 q481; obtain rfl : ad479 = ad481 := (by injection e481); replace p481 := eq_true p481; replace q481 := eq_true q481; have p482 : 0 ≤ (x3_1 : Int) := sq_dec; have q482 : x3_1 < (l0.length : Int) := sq_dec; obtain ⟨ad482, e482, hx482_0⟩ := Kd.at_int HR0.out x3_1 p482 q482; obtain rfl : ad479 = ad482 := (by injection e482); replace p482 := eq_true p482; replace q482 := eq_true q482))
           repeat (go_quiet (first | (go_at_call 56; (with_reducible refine (spec_l05Val.calls (rd l0 x3_1) true _ A5.out).mono ?_); rintro e w' ⟨rfl, ⟨nd, rfl⟩⟩; (try first | exact ⟨rfl, _, World.drewN_drewN _ _ _⟩ | exact ⟨rfl, _, Eq.trans (World.drewN_drewN _ _ _) (congrArg (World.drewN _) (Nat.add_assoc _ _ _))⟩); have p481 : 0 ≤ ((ji8) : Int) := sq_dec; have q481 : (ji8) < (l0.length : Int) := sq_dec; obtain ⟨ad481, e481, hx481_0⟩ := Kd.at_int HR0.out (ji8) p481 q481; obtain rfl : ad479 = ad481 := (by injection e481); replace p481 := eq_true p481; replace q481 := eq_true q481; have p482 : 0 ≤ (x3_1 : Int) := sq_dec; have q482 : x3_1 < (l0.length : Int) := sq_dec; obtain ⟨ad482, e482, hx482_0⟩ := Kd.at_int HR0.out x3_1 p482 q482; obtain rfl : ad479 = ad482 := (by injection e482); replace p482 := eq_true p482; replace q482 := eq_true q482)); try go_wp2_with (first | (go_at_call 56; (with_reducible refine (spec_l05Val.calls (rd l0 x3_1) true _ A5.out).mono ?_); rintro e w' ⟨rfl, ⟨nd, rfl⟩⟩; (try first | exact ⟨rfl, _, World.drewN_drewN _ _ _⟩ | exact ⟨rfl, _, Eq.trans (World.drewN_drewN _ _ _) (congrArg (World.drewN _) (Nat.add_assoc _ _ _))⟩); have p481 : 0 ≤ ((ji8) : Int) := sq_dec; have q481 : (ji8) < (l0.length : Int) := sq_dec; obtain ⟨ad481, e481, hx481_0⟩ := Kd.at_int HR0.out (ji8) p481 q481; obtain rfl : ad479 = ad481 := (by injection e481); replace p481 := eq_true p481; replace q481 := eq_true q481; have p482 : 0 ≤ (x3_1 : Int) := sq_dec; have q482 : x3_1 < (l0.length : Int) := sq_dec; obtain ⟨ad482, e482, hx482_0⟩ := Kd.at_int HR0.out x3_1 p482 q482; obtain rfl : ad479 = ad482 := (by injection e482); replace p482 := eq_true p482; replace q482 := eq_true q482)))
           go_ret
           exact ⟨by first | rfl | (simp; done) | (simp only [← hji8] <;> (first | rfl | simp)) | (simp [*]; done), by repeat (first | exact Drawn0.refl _ | apply Drawn0.step)⟩
          ·
           rw [if_neg c11] at H; have c11b0 : decide ((rd l0 x3_1) ≤ (rd l0 (ji8))) = false := decide_eq_false c11; clear c11; have H' := Aside0.mk H; clear H; have p479 : 0 ≤ (x3_1 : Int) := sq_dec; have q479 : x3_1 < (l0.length : Int) := sq_dec; obtain ⟨ad479, e479, hx479_0⟩ := Kd.at_int HR0.out x3_1 p479 q479; cases e479; replace p479 := eq_true p479; replace q479 := eq_true q479
           go_wp2_with (first | (go_at_call 56; (with_reducible refine (spec_l05Val.calls (rd l0 x3_1) true _ A5.out).mono ?_); rintro e w' ⟨rfl, ⟨nd, rfl⟩⟩; (try first | exact ⟨rfl, _, World.drewN_drewN _ _ _⟩ | exact ⟨rfl, _, Eq.trans (World.drewN_drewN _ _ _) (congrArg (World.drewN _) (Nat.add_assoc _ _ _))⟩); have p481 : 0 ≤ ((ji8) : Int) := sq_dec; have q481 : (ji8) < (l0.length : Int) := sq_dec; obtain ⟨ad481, e481, hx481_0⟩ := Kd.at_int HR0.out (ji8) p481 q481; obtain rfl : ad479 = ad481 := (by injection e481); replace p481 := eq_true p481; replace q481 := eq_true q481; have p482 : 0 ≤ (x3_1 : Int) := sq_dec; have q482 : x3_1 < (l0.length : Int) := sq_dec; obtain ⟨ad482, e482, hx482_0⟩ := Kd.at_int HR0.out x3_1 p482 q482; obtain rfl : ad479 = ad482 := (by injection e482); replace p482 := eq_true p482; replace q482 := eq_true q482))
           repeat (go_quiet (first | (go_at_call 56; (with_reducible refine (spec_l05Val.calls (rd l0 x3_1) true _ A5.out).mono ?_); rintro e w' ⟨rfl, ⟨nd, rfl⟩⟩; (try first | exact ⟨rfl, _, World.drewN_drewN _ _ _⟩ | exact ⟨rfl, _, Eq.trans (World.drewN_drewN _ _ _) (congrArg (World.drewN _) (Nat.add_assoc _ _ _))⟩); have p481 : 0 ≤ ((ji8) : Int) := sq_dec; have q481 : (ji8) < (l0.length : Int) := sq_dec; obtain ⟨ad481, e481, hx481_0⟩ := Kd.at_int HR0.out (ji8) p481 q481; obtain rfl : ad479 = ad481 := (by injection e481); replace p481 := eq_true p481; replace q481 := eq_true q481; have p482 : 0 ≤ (x3_1 : Int) := sq_dec; have q482 : x3_1 < (l0.length : Int) := sq_dec; obtain ⟨ad482, e482, hx482_0⟩ := Kd.at_int HR0.out x3_1 p482 q482; obtain rfl : ad479 = ad482 := (by injection e482); replace p482 := eq_true p482; replace q482 := eq_true q482)); try go_wp2_with (first | (go_at_call 56; (with_reducible refine (spec_l05Val.calls (rd l0 x3_1) true _ A5.out).mono ?_); rintro e w' ⟨rfl, ⟨nd, rfl⟩⟩; (try first | exact ⟨rfl, _, World.drewN_drewN _ _ _⟩ | exact ⟨rfl, _, Eq.trans (World.drewN_drewN _ _ _) (congrArg (World.drewN _) (Nat.add_assoc _ _ _))⟩); have p481 : 0 ≤ ((ji8) : Int) := sq_dec; have q481 : (ji8) < (l0.length : Int) := sq_dec; obtain ⟨ad481, e481, hx481_0⟩ := Kd.at_int HR0.out (ji8) p481 q481; obtain rfl : ad479 = ad481 := (by injection e481); replace p481 := eq_true p481; replace q481 := eq_true q481; have p482 : 0 ≤ (x3_1 : Int) := sq_dec; have q482 : x3_1 < (l0.length : Int) := sq_dec; obtain ⟨ad482, e482, hx482_0⟩ := Kd.at_int HR0.out x3_1 p482 q482; obtain rfl : ad479 = ad482 := (by injection e482); replace p482 := eq_true p482; replace q482 := eq_true q482)))
           go_roundg k1
           case measure => have := HK1.out; omega
           case rel => exact ⟨(wrap64 (x3_1 + 1)), (by first | rfl | (simp; done) | (simp [*]; done)), H', ⟨by have := HK1.out; omega⟩, by repeat (first | exact Drawn0.refl _ | apply Drawn0.step)⟩
         ·
          rw [if_neg c10] at H; exact absurd H (by simp)
        ·
         rw [if_neg c9] at H; exact absurd H (by simp)
       ·
        rw [if_neg c7] at H; have c7b0 : decide (0 < x3_1) = false := decide_eq_false c7; clear c7; have H' := Aside0.mk H; clear H; have p479 : 0 ≤ (x3_1 : Int) := sq_dec; have q479 : x3_1 < (l0.length : Int) := sq_dec; obtain ⟨ad479, e479, hx479_0⟩ := Kd.at_int HR0.out x3_1 p479 q479; cases e479; replace p479 := eq_true p479; replace q479 := eq_true q479
        go_wp2_with (first | (go_at_call 56; (with_reducible refine (spec_l05Val.calls (rd l0 x3_1) true _ A5.out).mono ?_); rintro e w' ⟨rfl, ⟨nd, rfl⟩⟩; (try first | exact ⟨rfl, _, World.drewN_drewN _ _ _⟩ | exact ⟨rfl, _, Eq.trans (World.drewN_drewN _ _ _) (congrArg (World.drewN _) (Nat.add_assoc _ _ _))⟩)))
        repeat (go_quiet (first | (go_at_call 56; (with_reducible refine (spec_l05Val.calls (rd l0 x3_1) true _ A5.out).mono ?_); rintro e w' ⟨rfl, ⟨nd, rfl⟩⟩; (try first | exact ⟨rfl, _, World.drewN_drewN _ _ _⟩ | exact ⟨rfl, _, Eq.trans (World.drewN_drewN _ _ _) (congrArg (World.drewN _) (Nat.add_assoc _ _ _))⟩))); try go_wp2_with (first | (go_at_call 56; (with_reducible refine (spec_l05Val.calls (rd l0 x3_1) true _ A5.out).mono ?_); rintro e w' ⟨rfl, ⟨nd, rfl⟩⟩; (try first | exact ⟨rfl, _, World.drewN_drewN _ _ _⟩ | exact ⟨rfl, _, Eq.trans (World.drewN_drewN _ _ _) (congrArg (World.drewN _) (Nat.add_assoc _ _ _))⟩))))
        go_roundg k1
        case measure => have := HK1.out; omega
        case rel => exact ⟨(wrap64 (x3_1 + 1)), (by first | rfl | (simp; done) | (simp [*]; done)), H', ⟨by have := HK1.out; omega⟩, by repeat (first | exact Drawn0.refl _ | apply Drawn0.step)⟩
      ·
       replace c6 := Bool.eq_false_iff.mpr c6; subst c6; have H1 := ifn_ H
       clear H; have H := H1; clear H1; obtain rfl := Option.some.inj H; have p479 : 0 ≤ (x3_1 : Int) := sq_dec; have q479 : x3_1 < (l0.length : Int) := sq_dec; obtain ⟨ad479, e479, hx479_0⟩ := Kd.at_int HR0.out x3_1 p479 q479; cases e479; replace p479 := eq_true p479; replace q479 := eq_true q479
       go_wp2_with (first | (go_at_call 56; (with_reducible refine (spec_l05Val.calls (rd l0 x3_1) false _ A5.out).mono ?_); rintro e w' ⟨rfl, ⟨nd, rfl⟩⟩; (try first | exact ⟨rfl, _, World.drewN_drewN _ _ _⟩ | exact ⟨rfl, _, Eq.trans (World.drewN_drewN _ _ _) (congrArg (World.drewN _) (Nat.add_assoc _ _ _))⟩)))
       repeat (go_quiet (first | (go_at_call 56; (with_reducible refine (spec_l05Val.calls (rd l0 x3_1) false _ A5.out).mono ?_); rintro e w' ⟨rfl, ⟨nd, rfl⟩⟩; (try first | exact ⟨rfl, _, World.drewN_drewN _ _ _⟩ | exact ⟨rfl, _, Eq.trans (World.drewN_drewN _ _ _) (congrArg (World.drewN _) (Nat.add_assoc _ _ _))⟩))); try go_wp2_with (first | (go_at_call 56; (with_reducible refine (spec_l05Val.calls (rd l0 x3_1) false _ A5.out).mono ?_); rintro e w' ⟨rfl, ⟨nd, rfl⟩⟩; (try first | exact ⟨rfl, _, World.drewN_drewN _ _ _⟩ | exact ⟨rfl, _, Eq.trans (World.drewN_drewN _ _ _) (congrArg (World.drewN _) (Nat.add_assoc _ _ _))⟩))))
       go_ret
       exact ⟨by first | rfl | (simp; done) | (simp [*]; done), by repeat (first | exact Drawn0.refl _ | apply Drawn0.step)⟩
     ·
      rw [if_neg c4] at H; exact absurd H (by simp)
    ·
     rw [if_neg c3] at H; have c3b0 : decide (x3_1 < (l0.length : Int)) = false := decide_eq_false c3; clear c3; obtain rfl := Option.some.inj H
     go_wp2
     repeat (go_quiet (fail); try go_wp2)
     go_ret
     exact ⟨by first | rfl | (simp; done) | (simp [*]; done), by repeat (first | exact Drawn0.refl _ | apply Drawn0.step)⟩

end Go.Proofs.YtmibaaicadgchaaDoor.Q
