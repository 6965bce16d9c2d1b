/- Functions of the translation as Lean functions, each with a proof that a call answers so; out of the seat, by this claim's own program prt.py. -/
import Derived.Test.YtfeloencepgdlaaGreatDoorWRepsOne
import Derived.Test.YtfeloencepgdlaaGreatDoorQx0
import Derived.Test.YtfeloencepgdlaaGreatDoorQx10
import Derived.Test.YtfeloencepgdlaaGreatDoorQStep
namespace Go.Proofs.YtfeloencepgdlaaGreatDoor.Q
open Go.RowKit Go.Proofs.YtfeloencepgdlaaGreatDoorW.PrintWords Go.Proofs.YtfeloencepgdlaaGreatDoorW.PrintLast Go.Proofs.YtfeloencepgdlaaGreatDoorW.PrintMore
attribute [local go_sem] max2_int min2_int max_two min_two max_three min_three max_four min_four   -- for this text's walks alone
set_option linter.unusedVariables false
set_option linter.unusedSimpArgs false

/-! ### spec_l07Label: function 33 -/
def spec_l07Label.j0 : Nat → ByteArray → Bool → Option (Bool)
 | 0, _, _ => none
 | k + 1, x0, x18 => if x18 = true then (if 4 ≤ (wrap64 ((x0.size : Int) - 1)) then (if (wrap64 ((x0.size : Int) - 1)) ≤ (x0.size : Int) then ((spec_l01Name.f k (x0.extract 4 ((wrap64 ((x0.size : Int) - 1)) : Int).toNat)).bind fun t158 => (some t158)) else (none)) else (none)) else ((spec_l01Name.f k x0).bind fun t159 => (some t159))
def spec_l07Label.f (k : Nat) (a0 : ByteArray) : Option (Bool) := if (a0.size : Int) > 5 then (if 0 ≤ 4 then (if 4 ≤ (a0.size : Int) then (if (a0.extract 0 4).toList = ([108, 101, 110, 40] : List UInt8) then (if 0 ≤ (wrap64 ((a0.size : Int) - 1)) then (if (wrap64 ((a0.size : Int) - 1)) < (a0.size : Int) then (spec_l07Label.j0 k a0 ((bt a0 (wrap64 ((a0.size : Int) - 1))) == 41)) else (none)) else (none)) else (spec_l07Label.j0 k a0 false)) else (none)) else (none)) else (spec_l07Label.j0 k a0 false)
theorem spec_l07Label.mono_l : ∀ k, (∀ y0 y1, LeO (spec_l07Label.j0 k y0 y1) (spec_l07Label.j0 (k + 1) y0 y1))
 | 0 => fun _ _ r h => by simp [spec_l07Label.j0] at h
 | k + 1 => by
  have ih0 := spec_l07Label.mono_l k
  ·
   intro y0 y1; unfold spec_l07Label.j0
   repeat' first
   | (with_reducible exact ih0 _ _)
   | (with_reducible exact spec_l01Name.mono _ _)
   | (with_reducible exact LeO.refl _)
   | (with_reducible exact LeO.none _)
   | (with_reducible refine LeO.ite ?_ ?_)
   | (with_reducible refine LeO.bind ?_ (fun _ => ?_))
   | exact ih0 _ _
   | exact spec_l01Name.mono _ _
   | exact LeO.none _
   | refine LeO.ite ?_ ?_
   | refine LeO.bind ?_ (fun _ => ?_)
theorem spec_l07Label.mono : ∀ a0 k, LeO (spec_l07Label.f k a0) (spec_l07Label.f (k + 1) a0) := by
 intro a0 k; have ih0 := spec_l07Label.mono_l k; unfold spec_l07Label.f
 repeat' first
   | (with_reducible exact ih0 _ _)
   | (with_reducible exact spec_l01Name.mono _ _)
   | (with_reducible exact LeO.refl _)
   | (with_reducible exact LeO.none _)
   | (with_reducible refine LeO.ite ?_ ?_)
   | (with_reducible refine LeO.bind ?_ (fun _ => ?_))
   | exact ih0 _ _
   | exact spec_l01Name.mono _ _
   | exact LeO.none _
   | refine LeO.ite ?_ ?_
   | refine LeO.bind ?_ (fun _ => ?_)
set_option maxHeartbeats 8000000 in
set_option maxRecDepth 100000 in
theorem spec_l07Label.calls (k : Nat) (a0 : ByteArray) (r : Bool) (w : World) (h : spec_l07Label.f k a0 = some r) :
  Calls Tryz.prog 33 #[.string a0] w fun e w' => e = .returned (.bool r) ∧ Below w.heap.size w w' := by
 have HB := Aside0.mk (Below.refl w.heap.size w); have H : (if (a0.size : Int) > 5 then (if 0 ≤ 4 then (if 4 ≤ (a0.size : Int) then (if (a0.extract 0 4).toList = ([108, 101, 110, 40] : List UInt8) then (if 0 ≤ (wrap64 ((a0.size : Int) - 1)) then (if (wrap64 ((a0.size : Int) - 1)) < (a0.size : Int) then (spec_l07Label.j0 k a0 ((bt a0 (wrap64 ((a0.size : Int) - 1))) == 41)) else (none)) else (none)) else (spec_l07Label.j0 k a0 false)) else (none)) else (none)) else (spec_l07Label.j0 k a0 false)) = some r := h; clear h; have HC2 := Aside0.mk H; clear H
 go_enter Tryz.func33, Tryz.ntmps33
 go_upto_region 1 with (fail)
 go_cut [18] (fun v18 wc => ∃ (kq : Nat) (x18_1 : Bool), v18 = .bool x18_1 ∧ Aside0 (spec_l07Label.j0 kq a0 x18_1 = some r) ∧ Aside0 (kq ≤ k) ∧ Aside0 (Below w.heap.size w wc))
 case first =>
  have H := HC2.out; clear HC2
  by_cases c3 : (a0.size : Int) > 5
  ·
   rw [if_pos c3] at H; have c3b0 : decide (5 < (a0.size : Int)) = true := decide_eq_true c3; have c3b1 : decide (5 < a0.size) = true := decide_eq_true (by omega); clear c3
   (first | rw [c3b0] | (simp only [i64_w, i32_w]; rw [c3b0]) | skip)
   by_cases c4 : 0 ≤ 4
   ·
    rw [if_pos c4] at H; have c4b0 := eq_true c4; have c4b1 : decide (0 ≤ 4) = true := decide_eq_true c4; clear c4
    by_cases c5 : 4 ≤ (a0.size : Int)
    ·
     rw [if_pos c5] at H; have c5b0 := eq_true c5; have c5b1 : decide (4 ≤ (a0.size : Int)) = true := decide_eq_true c5; clear c5
     by_cases c6 : (a0.extract 0 4).toList = ([108, 101, 110, 40] : List UInt8)
     ·
      rw [if_pos c6] at H; have c6b0 : ((a0.extract 0 4).toList == ([108, 101, 110, 40] : List UInt8)) = true := beq_iff_eq.mpr c6; have c6b1 : ((a0.extract 0 4).toList != ([108, 101, 110, 40] : List UInt8)) = false := bne_eq_false_iff_eq.mpr c6; clear c6; obtain ⟨ji7, hji7⟩ : ∃ j_ : Int, (wrap64 ((a0.size : Int) - 1)) = j_ := ⟨_, rfl⟩; replace H : (if 0 ≤ (ji7) then (if (ji7) < (a0.size : Int) then (spec_l07Label.j0 k a0 ((bt a0 (ji7)) == 41)) else (none)) else (none)) = some r := by first | (rw [hji7] at H; exact H) | (simp only [hji7] at H ⊢; exact H)
      have hji7w : (IntKind.i64.wrap ((a0.size : Int) - 1)) = ji7 := (i64_w _).trans hji7
      by_cases c8 : 0 ≤ (ji7)
      ·
       rw [if_pos c8] at H; have c8b0 : decide (0 ≤ (ji7)) = true := decide_eq_true c8; clear c8
       by_cases c9 : (ji7) < (a0.size : Int)
       ·
        rw [if_pos c9] at H; have c9b0 : decide ((ji7) < (a0.size : Int)) = true := decide_eq_true c9; clear c9; have H' := Aside0.mk H; clear H; have p10 : 0 ≤ ((ji7) : Int) := sq_dec; have q10 : (ji7) < (a0.size : Int) := sq_dec; have hx10 := bt_at a0 (ji7); replace p10 := eq_true p10; replace q10 := eq_true q10
        go_wp2
        go_meet
        case rel => exact ⟨_, (((bt a0 (ji7)) == 41)), (by first | rfl | (simp; done) | (simp only [← hji7] <;> (first | rfl | simp)) | (simp [*]; done)), (by first | exact H' | (rw [hji7]; exact H')), ⟨by first | omega | exact Nat.le_refl _⟩, ⟨sq_below HB.out⟩⟩
       ·
        rw [if_neg c9] at H; exact absurd H (by simp)
      ·
       rw [if_neg c8] at H; exact absurd H (by simp)
     ·
      rw [if_neg c6] at H; have c6b0 : ((a0.extract 0 4).toList == ([108, 101, 110, 40] : List UInt8)) = false := beq_eq_false_iff_ne.mpr c6; have c6b1 : ((a0.extract 0 4).toList != ([108, 101, 110, 40] : List UInt8)) = true := bne_iff_ne.mpr c6; have H' := Aside0.mk H; clear H
      go_wp2
      go_meet
      case rel => exact ⟨_, (false), (by first | rfl | (simp; done) | (simp [*]; done)), H', ⟨by first | omega | exact Nat.le_refl _⟩, ⟨sq_below HB.out⟩⟩
    ·
     rw [if_neg c5] at H; exact absurd H (by simp)
   ·
    rw [if_neg c4] at H; exact absurd H (by simp)
  ·
   rw [if_neg c3] at H; have c3b0 : decide (5 < (a0.size : Int)) = false := decide_eq_false c3; have c3b1 : decide (5 < a0.size) = false := decide_eq_false (by omega); clear c3
   (first | rw [c3b0] | (simp only [i64_w, i32_w]; rw [c3b0]) | skip)
   have H' := Aside0.mk H; clear H
   go_wp2
   go_meet
   case rel => exact ⟨_, (false), (by first | rfl | (simp; done) | (simp [*]; done)), H', ⟨by first | omega | exact Nat.le_refl _⟩, ⟨sq_below HB.out⟩⟩
 case rest =>
  clear HC2
  try clear p1
  try clear q1
  try clear hx1
  try clear p2
  try clear c3
  try clear c3b0
  try clear c3b1
  try clear c4
  try clear c4b0
  try clear c4b1
  try clear c5
  try clear c5b0
  try clear c5b1
  try clear c6
  try clear c6b0
  try clear c6b1
  try clear p6
  try clear c8
  try clear c8b0
  try clear c9
  try clear c9b0
  try clear p10
  try clear q10
  try clear hx10
  try clear p10
  try clear q10
  obtain ⟨kq, x18_1, rfl, HA, HJ1, HB⟩ := hcut; cases kq with
  | zero => exact absurd HA.out (by simp [spec_l07Label.j0])
  | succ kj1 =>
   have H := HA.out; clear HA; simp only [spec_l07Label.j0] at H
   by_cases c11 : x18_1 = true
   ·
    subst c11; have H1 := ifp_ H
    clear H; have H := H1; clear H1
    by_cases c12 : 4 ≤ (wrap64 ((a0.size : Int) - 1))
    ·
     rw [if_pos c12] at H; have c12b0 := eq_true c12; have c12b1 : decide (4 ≤ (wrap64 ((a0.size : Int) - 1))) = true := decide_eq_true c12; clear c12
     by_cases c13 : (wrap64 ((a0.size : Int) - 1)) ≤ (a0.size : Int)
     ·
      rw [if_pos c13] at H; have c13b0 := eq_true c13; have c13b1 : decide ((wrap64 ((a0.size : Int) - 1)) ≤ (a0.size : Int)) = true := decide_eq_true c13; clear c13; replace H := Option.bind_eq_some_iff.mp H; obtain ⟨t158, A140, H⟩ := H; replace H : (some t158) = some r := H; have A14 := Aside0.mk A140; clear A140; obtain rfl := Option.some.inj H
      go_wp2_with (first | ((with_reducible refine gate_callee (f := 60) rfl ?_); refine gl_ 24 Tryz.func60 #[.string (a0.extract 4 ((wrap64 ((a0.size : Int) - 1)) : Int).toNat)] (h := ?_); (with_reducible refine (spec_l01Name.calls kj1 (a0.extract 4 ((wrap64 ((a0.size : Int) - 1)) : Int).toNat) t158 _ A14.out).mono ?_); rintro e w15 ⟨rfl, hb⟩; refine ⟨_, rfl, ?_⟩; replace HB := hb_ HB hb; (try clear hb)))
      go_ret
      exact ⟨by first | rfl | (simp [errW_none, errW_some] <;> rfl) | (simp [*, errW_none, errW_some] <;> rfl), sq_below HB.out⟩
     ·
      rw [if_neg c13] at H; exact absurd H (by simp)
    ·
     rw [if_neg c12] at H; exact absurd H (by simp)
   ·
    replace c11 := Bool.eq_false_iff.mpr c11; subst c11; have H1 := ifn_ H
    clear H; have H := H1; clear H1; replace H := Option.bind_eq_some_iff.mp H; obtain ⟨t159, A160, H⟩ := H; replace H : (some t159) = some r := H; have A16 := Aside0.mk A160; clear A160; obtain rfl := Option.some.inj H
    go_wp2_with (first | ((with_reducible refine gate_callee (f := 60) rfl ?_); refine gl_ 26 Tryz.func60 #[.string a0] (h := ?_); (with_reducible refine (spec_l01Name.calls kj1 a0 t159 _ A16.out).mono ?_); rintro e w17 ⟨rfl, hb⟩; refine ⟨_, rfl, ?_⟩; replace HB := hb_ HB hb; (try clear hb)))
    go_ret
    exact ⟨by first | rfl | (simp [errW_none, errW_some] <;> rfl) | (simp [*, errW_none, errW_some] <;> rfl), sq_below HB.out⟩

/-! ### spec_l08Labels: function 16 -/
def spec_l08Labels.l0 : Nat → List ByteArray → Int → Option (Bool)
 | 0, _, _ => none
 | k + 1, x0, x3 => if x3 < (x0.length : Int) then (if 0 ≤ x3 then ((spec_l07Label.f k (rdOf ByteArray.empty x0 x3)).bind fun t161 => (if t161 = true then (spec_l08Labels.l0 k x0 (wrap64 (x3 + 1))) else (some false))) else (none)) else (some true)
def spec_l08Labels.f (k : Nat) (l0 : List ByteArray) : Option (Bool) := if (l0.length : Int) ≥ 13 then (some false) else (spec_l08Labels.l0 k l0 0)
theorem spec_l08Labels.mono_l : ∀ k, (∀ y0 y1, LeO (spec_l08Labels.l0 k y0 y1) (spec_l08Labels.l0 (k + 1) y0 y1))
 | 0 => fun _ _ r h => by simp [spec_l08Labels.l0] at h
 | k + 1 => by
  have ih0 := spec_l08Labels.mono_l k
  ·
   intro y0 y1; unfold spec_l08Labels.l0
   repeat' first
   | (with_reducible exact ih0 _ _)
   | (with_reducible exact spec_l07Label.mono _ _)
   | (with_reducible exact LeO.refl _)
   | (with_reducible exact LeO.none _)
   | (with_reducible refine LeO.ite ?_ ?_)
   | (with_reducible refine LeO.bind ?_ (fun _ => ?_))
   | exact ih0 _ _
   | exact spec_l07Label.mono _ _
   | exact LeO.none _
   | refine LeO.ite ?_ ?_
   | refine LeO.bind ?_ (fun _ => ?_)
theorem spec_l08Labels.mono : ∀ a0 k, LeO (spec_l08Labels.f k a0) (spec_l08Labels.f (k + 1) a0) := by
 intro a0 k; have ih0 := spec_l08Labels.mono_l k; unfold spec_l08Labels.f
 repeat' first
   | (with_reducible exact ih0 _ _)
   | (with_reducible exact spec_l07Label.mono _ _)
   | (with_reducible exact LeO.refl _)
   | (with_reducible exact LeO.none _)
   | (with_reducible refine LeO.ite ?_ ?_)
   | (with_reducible refine LeO.bind ?_ (fun _ => ?_))
   | exact ih0 _ _
   | exact spec_l07Label.mono _ _
   | exact LeO.none _
   | refine LeO.ite ?_ ?_
   | refine LeO.bind ?_ (fun _ => ?_)
set_option maxHeartbeats 8000000 in
set_option maxRecDepth 100000 in
theorem spec_l08Labels.calls (k : Nat) (A0 : Option Addr) (c0 : Nat) (l0 : List ByteArray) (r : Bool) (w : World) (hr0 : Kd.C Kd.string w A0 l0.length l0) (hc0 : l0.length ≤ c0) (h : spec_l08Labels.f k l0 = some r) :
  Calls Tryz.prog 16 #[.slice A0 l0.length c0] w fun e w' => e = .returned (.bool r) ∧ Below w.heap.size w w' := by
 have HR0 := Aside0.mk hr0; have HC0 := Aside0.mk hc0; clear hr0 hc0; have HB := Aside0.mk (Below.refl w.heap.size w); have H : (if (l0.length : Int) ≥ 13 then (some false) else (spec_l08Labels.l0 k l0 0)) = some r := h; clear h
 by_cases c2 : (l0.length : Int) ≥ 13
 ·
  rw [if_pos c2] at H; have c2b0 : decide (13 ≤ (l0.length : Int)) = true := decide_eq_true c2; have c2b1 : decide (13 ≤ l0.length) = true := decide_eq_true (by omega); clear c2; obtain rfl := Option.some.inj H
  go_enter Tryz.func16, Tryz.ntmps16
  go_wp2
  go_ret
  exact ⟨by first | rfl | (simp [errW_none, errW_some] <;> rfl) | (simp [*, errW_none, errW_some] <;> rfl), sq_below HB.out⟩
 ·
  rw [if_neg c2] at H; have c2b0 : decide (13 ≤ (l0.length : Int)) = false := decide_eq_false c2; have c2b1 : decide (13 ≤ l0.length) = false := decide_eq_false (by omega); clear c2; have H' := Aside0.mk H; clear H
  go_enter Tryz.func16, Tryz.ntmps16
  go_wp2
  go_loopg [3] k (fun kq v3 w' => ∃ (x3_1 : Int), v3 = .int .i64 x3_1 ∧ Aside0 (spec_l08Labels.l0 kq l0 x3_1 = some r) ∧ Aside0 (kq ≤ k) ∧ Aside0 (Below w.heap.size w w'))
  case atStart => exact ⟨(0), (by first | rfl | (simp; done) | (simp [*]; done)), H', ⟨Nat.le_refl _⟩, ⟨sq_below HB.out⟩⟩
  case round =>
   clear H'
   try clear c1
   try clear c2
   try clear c2b0
   try clear c2b1
   try clear p2
   obtain ⟨x3_1, rfl, HA, HK1, HB⟩ := hrel; cases gk with
   | zero => exact absurd HA.out (by simp [spec_l08Labels.l0])
   | succ k1 =>
    have H := HA.out; clear HA; simp only [spec_l08Labels.l0] at H
    by_cases c3 : x3_1 < (l0.length : Int)
    ·
     rw [if_pos c3] at H; have c3b0 : decide (x3_1 < (l0.length : Int)) = true := decide_eq_true c3; clear c3
     by_cases c4 : 0 ≤ x3_1
     ·
      rw [if_pos c4] at H; have c4b0 : decide (0 ≤ x3_1) = true := decide_eq_true c4; clear c4; replace H := Option.bind_eq_some_iff.mp H; obtain ⟨t161, A50, H⟩ := H; (try dsimp only at H); have A5 := Aside0.mk A50; clear A50
      by_cases c6 : t161 = true
      ·
       subst c6; have H1 := ifp_ H
       clear H; have H := H1; clear H1; have H' := Aside0.mk H; clear H; have p160 : 0 ≤ (x3_1 : Int) := sq_dec; have q160 : x3_1 < (l0.length : Int) := sq_dec; obtain ⟨ad160, e160, hx160_0⟩ := Kd.at_string HR0.out x3_1 p160 q160; cases e160; replace hx160_0 := (HB.out.cell (World.block_lt_of_cell? w _ hx160_0)).trans hx160_0; replace p160 := eq_true p160; replace q160 := eq_true q160
       go_wp2_with (first | ((with_reducible refine gate_callee (f := 33) rfl ?_); refine gl_ 17 Tryz.func33 #[.string (rdOf ByteArray.empty l0 x3_1)] (h := ?_); (with_reducible refine (spec_l07Label.calls k1 (rdOf ByteArray.empty l0 x3_1) true _ A5.out).mono ?_); rintro e w7 ⟨rfl, hb⟩; refine ⟨_, rfl, ?_⟩; replace HB := hb_ HB hb; (try clear hb)))
       go_roundg k1
       case measure => have := HK1.out; omega
       case rel => exact ⟨(wrap64 (x3_1 + 1)), (by first | rfl | (simp; done) | (simp [*]; done)), H', ⟨by have := HK1.out; omega⟩, ⟨sq_below HB.out⟩⟩
      ·
       replace c6 := Bool.eq_false_iff.mpr c6; subst c6; have H1 := ifn_ H
       clear H; have H := H1; clear H1; obtain rfl := Option.some.inj H; have p160 : 0 ≤ (x3_1 : Int) := sq_dec; have q160 : x3_1 < (l0.length : Int) := sq_dec; obtain ⟨ad160, e160, hx160_0⟩ := Kd.at_string HR0.out x3_1 p160 q160; cases e160; replace hx160_0 := (HB.out.cell (World.block_lt_of_cell? w _ hx160_0)).trans hx160_0; replace p160 := eq_true p160; replace q160 := eq_true q160
       go_wp2_with (first | ((with_reducible refine gate_callee (f := 33) rfl ?_); refine gl_ 17 Tryz.func33 #[.string (rdOf ByteArray.empty l0 x3_1)] (h := ?_); (with_reducible refine (spec_l07Label.calls k1 (rdOf ByteArray.empty l0 x3_1) false _ A5.out).mono ?_); rintro e w8 ⟨rfl, hb⟩; refine ⟨_, rfl, ?_⟩; replace HB := hb_ HB hb; (try clear hb)))
       go_ret
       exact ⟨by first | rfl | (simp [errW_none, errW_some] <;> rfl) | (simp [*, errW_none, errW_some] <;> rfl), sq_below HB.out⟩
     ·
      rw [if_neg c4] at H; exact absurd H (by simp)
    ·
     rw [if_neg c3] at H; have c3b0 : decide (x3_1 < (l0.length : Int)) = false := decide_eq_false c3; clear c3; obtain rfl := Option.some.inj H
     go_wp2
     go_ret
     exact ⟨by first | rfl | (simp [errW_none, errW_some] <;> rfl) | (simp [*, errW_none, errW_some] <;> rfl), sq_below HB.out⟩

end Go.Proofs.YtfeloencepgdlaaGreatDoor.Q
