/- Functions of the translation as Lean functions, each with a proof that a call answers so; out of the seat, by this claim's own program prt.py. -/
import Derived.Test.YtfeloencepgdlaaDoorWRepsOne
import Derived.Test.YtfeloencepgdlaaDoorQx0
import Derived.Test.YtfeloencepgdlaaDoorQx5
import Derived.Test.YtfeloencepgdlaaDoorQx6
import Derived.Test.YtfeloencepgdlaaDoorQStep
namespace Go.Proofs.YtfeloencepgdlaaDoor.Q
open Go.RowKit Go.Proofs.YtfeloencepgdlaaDoorW.PrintWords Go.Proofs.YtfeloencepgdlaaDoorW.PrintLast Go.Proofs.YtfeloencepgdlaaDoorW.PrintMore
attribute [local go_sem] max2_int min2_int max_two min_two max_three min_three max_four min_four   -- for this text's walks alone
set_option linter.unusedVariables false
set_option linter.unusedSimpArgs false

/-! ### laws_szCellS: function 11 -/
def laws_szCellS.f (l0 : List (S79)) (a1 : Int) : Option (Int) := if (wrap64 (a1 - (l0.length : Int))) < 0 then (some (-1)) else (some (wrap64 (a1 - (l0.length : Int))))
set_option maxHeartbeats 8000000 in
set_option maxRecDepth 100000 in
theorem laws_szCellS.calls (A0 : Option Addr) (c0 : Nat) (l0 : List (S79)) (a1 : Int) (r : Int) (w : World) (hr0 : Kd.C k79 w A0 l0.length l0) (hc0 : l0.length ≤ c0) (h : laws_szCellS.f l0 a1 = some r) :
  Calls Tryd.prog 11 #[.slice A0 l0.length c0, .int .i64 a1] w fun e w' => e = .returned (.int .i64 r) ∧ Drawn0 w w' := by
 have HR0 := Aside0.mk hr0; have HC0 := Aside0.mk hc0; clear hr0 hc0; have H : (if (wrap64 (a1 - (l0.length : Int))) < 0 then (some (-1)) else (some (wrap64 (a1 - (l0.length : Int))))) = some r := h; clear h
 by_cases c3 : (wrap64 (a1 - (l0.length : Int))) < 0
 ·
  rw [if_pos c3] at H; have c3b0 : decide ((wrap64 (a1 - (l0.length : Int))) < 0) = true := decide_eq_true c3; clear c3; obtain rfl := Option.some.inj H
  go_enter Tryd.func11, Tryd.ntmps11
  go_wp2
  go_ret
  exact ⟨by first | rfl | (simp; done) | (simp [*]; done), by repeat (first | exact Drawn0.refl _ | apply Drawn0.step)⟩
 ·
  rw [if_neg c3] at H; have c3b0 : decide ((wrap64 (a1 - (l0.length : Int))) < 0) = false := decide_eq_false c3; clear c3; obtain rfl := Option.some.inj H
  go_enter Tryd.func11, Tryd.ntmps11
  go_wp2
  go_ret
  exact ⟨by first | rfl | (simp; done) | (simp [*]; done), by repeat (first | exact Drawn0.refl _ | apply Drawn0.step)⟩

/-! ### spec_l07Vals: function 43 -/
mutual
def spec_l07Vals.j0 : Nat → Int → List Int → Bool → Option (Bool)
 | 0, _, _, _ => none
 | k + 1, x0, x1, x19 => if x19 = true then (some false) else (spec_l07Vals.l0 k x0 x1 0)
def spec_l07Vals.l0 : Nat → Int → List Int → Int → Option (Bool)
 | 0, _, _, _ => none
 | k + 1, x0, x1, x5 => if x5 < x0 then (if 0 ≤ x5 then (if x5 < (x1.length : Int) then ((spec_l05Val.f (rd x1 x5)).bind fun t311 => (if t311 = true then (spec_l07Vals.l0 k x0 x1 (wrap64 (x5 + 1))) else (some false))) else (none)) else (none)) else (some true)
end
def spec_l07Vals.f (k : Nat) (a0 : Int) (l1 : List Int) : Option (Bool) := if (l1.length : Int) = a0 then (if a0 < 1 then (spec_l07Vals.j0 k a0 l1 true) else (if 0 < (l1.length : Int) then (spec_l07Vals.j0 k a0 l1 ((rd l1 0) != 0)) else (none))) else (spec_l07Vals.j0 k a0 l1 true)
theorem spec_l07Vals.mono_l : ∀ k, (∀ y0 y1 y2, LeO (spec_l07Vals.j0 k y0 y1 y2) (spec_l07Vals.j0 (k + 1) y0 y1 y2)) ∧ (∀ y0 y1 y2, LeO (spec_l07Vals.l0 k y0 y1 y2) (spec_l07Vals.l0 (k + 1) y0 y1 y2))
 | 0 => ⟨fun _ _ _ r h => by simp [spec_l07Vals.j0] at h, fun _ _ _ r h => by simp [spec_l07Vals.l0] at h⟩
 | k + 1 => by
  obtain ⟨ih0, ih1⟩ := spec_l07Vals.mono_l k; refine ⟨?_, ?_⟩
  ·
   intro y0 y1 y2; unfold spec_l07Vals.j0
   repeat' first
   | (with_reducible exact ih0 _ _ _)
   | (with_reducible exact ih1 _ _ _)
   | (with_reducible exact LeO.refl _)
   | (with_reducible exact LeO.none _)
   | (with_reducible refine LeO.ite ?_ ?_)
   | (with_reducible refine LeO.bind ?_ (fun _ => ?_))
   | exact ih0 _ _ _
   | exact ih1 _ _ _
   | exact LeO.none _
   | refine LeO.ite ?_ ?_
   | refine LeO.bind ?_ (fun _ => ?_)
  ·
   intro y0 y1 y2; unfold spec_l07Vals.l0
   repeat' first
   | (with_reducible exact ih0 _ _ _)
   | (with_reducible exact ih1 _ _ _)
   | (with_reducible exact LeO.refl _)
   | (with_reducible exact LeO.none _)
   | (with_reducible refine LeO.ite ?_ ?_)
   | (with_reducible refine LeO.bind ?_ (fun _ => ?_))
   | exact ih0 _ _ _
   | exact ih1 _ _ _
   | exact LeO.none _
   | refine LeO.ite ?_ ?_
   | refine LeO.bind ?_ (fun _ => ?_)
theorem spec_l07Vals.mono : ∀ a0 a1 k, LeO (spec_l07Vals.f k a0 a1) (spec_l07Vals.f (k + 1) a0 a1) := by
 intro a0 a1 k; obtain ⟨ih0, ih1⟩ := spec_l07Vals.mono_l k; unfold spec_l07Vals.f
 repeat' first
   | (with_reducible exact ih0 _ _ _)
   | (with_reducible exact ih1 _ _ _)
   | (with_reducible exact LeO.refl _)
   | (with_reducible exact LeO.none _)
   | (with_reducible refine LeO.ite ?_ ?_)
   | (with_reducible refine LeO.bind ?_ (fun _ => ?_))
   | exact ih0 _ _ _
   | exact ih1 _ _ _
   | exact LeO.none _
   | refine LeO.ite ?_ ?_
   | refine LeO.bind ?_ (fun _ => ?_)
set_option maxHeartbeats 8000000 in
set_option maxRecDepth 100000 in
theorem spec_l07Vals.calls (k : Nat) (a0 : Int) (A1 : Option Addr) (c1 : Nat) (l1 : List Int) (r : Bool) (w : World) (hr1 : Kd.C (Kd.int .i64) w A1 l1.length l1) (hc1 : l1.length ≤ c1) (h : spec_l07Vals.f k a0 l1 = some r) :
  Calls Tryd.prog 43 #[.int .i64 a0, .slice A1 l1.length c1] w fun e w' => e = .returned (.bool r) ∧ Drawn0 w w' := by
 have HR1 := Aside0.mk hr1; have HC1 := Aside0.mk hc1; clear hr1 hc1; have H : (if (l1.length : Int) = a0 then (if a0 < 1 then (spec_l07Vals.j0 k a0 l1 true) else (if 0 < (l1.length : Int) then (spec_l07Vals.j0 k a0 l1 ((rd l1 0) != 0)) else (none))) else (spec_l07Vals.j0 k a0 l1 true)) = some r := h; clear h; have HC3 := Aside0.mk H; clear H
 go_enter Tryd.func43, Tryd.ntmps43
 go_upto_region 1 with (fail)
 go_cut [19] (fun v19 wc => ∃ (kq : Nat) (x19_2 : Bool), v19 = .bool x19_2 ∧ Aside0 (spec_l07Vals.j0 kq a0 l1 x19_2 = some r) ∧ Aside0 (kq ≤ k) ∧ Drawn0 w wc)
 case first =>
  have H := HC3.out; clear HC3
  by_cases c4 : (l1.length : Int) = a0
  ·
   rw [if_pos c4] at H; have c4b0 : ((l1.length : Int) == a0) = true := beq_iff_eq.mpr c4; have c4b1 : ((l1.length : Int) != a0) = false := bne_eq_false_iff_eq.mpr c4; clear c4
   (first | rw [c4b0] | (simp only [i64_w, i32_w]; rw [c4b0]) | skip)
   by_cases c5 : a0 < 1
   ·
    rw [if_pos c5] at H; have c5b0 : decide (a0 < 1) = true := decide_eq_true c5; clear c5; have H' := Aside0.mk H; clear H
    go_wp2
    go_meet
    case rel => exact ⟨_, (true), (by first | rfl | (simp; done) | (simp [*]; done)), H', ⟨by first | omega | exact Nat.le_refl _⟩, by repeat (first | exact Drawn0.refl _ | apply Drawn0.step)⟩
   ·
    rw [if_neg c5] at H; have c5b0 : decide (a0 < 1) = false := decide_eq_false c5; clear c5
    by_cases c6 : 0 < (l1.length : Int)
    ·
     rw [if_pos c6] at H; have c6b0 : decide (0 < (l1.length : Int)) = true := decide_eq_true c6; have c6b1 : decide (0 < l1.length) = true := decide_eq_true (by omega); clear c6; have H' := Aside0.mk H; clear H; have p309 : 0 ≤ (0 : Int) := (by omega); have q309 : 0 < (l1.length : Int) := sq_dec; obtain ⟨ad309, e309, hx309_0⟩ := Kd.at_int HR1.out 0 p309 q309; cases e309; have qi309 : (0 < l1.length) = True := eq_true (by omega)
     (try rw [show ((0 : Int)).toNat = 0 from rfl] at hx309_0)
     (try rw [Addr.add_zero'] at hx309_0)
     replace p309 := eq_true p309; replace q309 := eq_true q309
     go_wp2
     go_meet
     case rel => exact ⟨_, (((rd l1 0) != 0)), (by first | rfl | (simp; done) | (simp [*]; done)), H', ⟨by first | omega | exact Nat.le_refl _⟩, by repeat (first | exact Drawn0.refl _ | apply Drawn0.step)⟩
    ·
     rw [if_neg c6] at H; exact absurd H (by simp)
  ·
   rw [if_neg c4] at H; have c4b0 : ((l1.length : Int) == a0) = false := beq_eq_false_iff_ne.mpr c4; have c4b1 : ((l1.length : Int) != a0) = true := bne_iff_ne.mpr c4
   (first | rw [c4b0] | (simp only [i64_w, i32_w]; rw [c4b0]) | skip)
   have H' := Aside0.mk H; clear H
   go_wp2
   go_meet
   case rel => exact ⟨_, (true), (by first | rfl | (simp; done) | (simp [*]; done)), H', ⟨by first | omega | exact Nat.le_refl _⟩, by repeat (first | exact Drawn0.refl _ | apply Drawn0.step)⟩
 case rest =>
  clear HC3
  try clear c1
  try clear p2
  try clear p3
  try clear q3
  try clear hx3
  try clear qi3
  try clear c4
  try clear c4b0
  try clear c4b1
  try clear c5
  try clear c5b0
  try clear c6
  try clear c6b0
  try clear c6b1
  try clear hx309_0
  try clear p309
  try clear q309
  obtain ⟨kq, x19_2, rfl, HA, HJ2, ⟨mc2, rfl⟩⟩ := hcut; cases kq with
  | zero => exact absurd HA.out (by simp [spec_l07Vals.j0])
  | succ kj2 =>
   have H := HA.out; clear HA; simp only [spec_l07Vals.j0] at H
   by_cases c7 : x19_2 = true
   ·
    subst c7; have H1 := ifp_ H
    clear H; have H := H1; clear H1; obtain rfl := Option.some.inj H
    go_wp2
    go_ret
    exact ⟨by first | rfl | (simp; done) | (simp [*]; done), by repeat (first | exact Drawn0.refl _ | apply Drawn0.step)⟩
   ·
    replace c7 := Bool.eq_false_iff.mpr c7; subst c7; have H1 := ifn_ H
    clear H; have H := H1; clear H1; have H' := Aside0.mk H; clear H
    go_wp2
    go_loopg [5] kj2 (fun kq v5 w' => ∃ (x5_2 : Int), v5 = .int .i64 x5_2 ∧ Aside0 (spec_l07Vals.l0 kq a0 l1 x5_2 = some r) ∧ Aside0 (kq ≤ kj2) ∧ Drawn0 w w')
    case atStart => exact ⟨(0), (by first | rfl | (simp; done) | (simp [*]; done)), H', ⟨Nat.le_refl _⟩, by repeat (first | exact Drawn0.refl _ | apply Drawn0.step)⟩
    case round =>
     clear H'
     try clear c1
     try clear c2
     try clear p2
     try clear p3
     try clear q3
     try clear hx3
     try clear qi3
     try clear c4
     try clear c4b0
     try clear c4b1
     try clear c5
     try clear c5b0
     try clear c6
     try clear c6b0
     try clear c6b1
     try clear c7
     try clear hx309_0
     try clear p2
     try clear p3
     try clear p309
     try clear q3
     try clear q309
     obtain ⟨x5_2, rfl, HA, HK2, ⟨m2, rfl⟩⟩ := hrel; cases gk with
     | zero => exact absurd HA.out (by simp [spec_l07Vals.l0])
     | succ k2 =>
      have H := HA.out; clear HA; simp only [spec_l07Vals.l0] at H
      by_cases c8 : x5_2 < a0
      ·
       rw [if_pos c8] at H; have c8b0 : decide (x5_2 < a0) = true := decide_eq_true c8; clear c8
       by_cases c9 : 0 ≤ x5_2
       ·
        rw [if_pos c9] at H; have c9b0 : decide (0 ≤ x5_2) = true := decide_eq_true c9; clear c9
        by_cases c10 : x5_2 < (l1.length : Int)
        ·
         rw [if_pos c10] at H; have c10b0 : decide (x5_2 < (l1.length : Int)) = true := decide_eq_true c10; clear c10; replace H := Option.bind_eq_some_iff.mp H; obtain ⟨t311, A110, H⟩ := H; (try dsimp only at H); have A11 := Aside0.mk A110; clear A110
         by_cases c12 : t311 = true
         ·
          subst c12; have H1 := ifp_ H
          clear H; have H := H1; clear H1; have H' := Aside0.mk H; clear H; have p310 : 0 ≤ (x5_2 : Int) := sq_dec; have q310 : x5_2 < (l1.length : Int) := sq_dec; obtain ⟨ad310, e310, hx310_0⟩ := Kd.at_int HR1.out x5_2 p310 q310; cases e310; replace p310 := eq_true p310; replace q310 := eq_true q310
          go_wp2_with (first | ((with_reducible refine gate_callee (f := 67) rfl ?_); refine gl_ 29 Tryd.func67 #[.int .i64 (rd l1 x5_2)] (h := ?_); (with_reducible refine (spec_l05Val.calls (rd l1 x5_2) true _ A11.out).mono ?_); rintro e w' ⟨rfl, ⟨nd, rfl⟩⟩; refine ⟨_, rfl, ?_⟩))
          go_roundg k2
          case measure => have := HJ2.out; have := HK2.out; omega
          case rel => exact ⟨(wrap64 (x5_2 + 1)), (by first | rfl | (simp; done) | (simp [*]; done)), H', ⟨by have := HJ2.out; have := HK2.out; omega⟩, by repeat (first | exact Drawn0.refl _ | apply Drawn0.step)⟩
         ·
          replace c12 := Bool.eq_false_iff.mpr c12; subst c12; have H1 := ifn_ H
          clear H; have H := H1; clear H1; obtain rfl := Option.some.inj H; have p310 : 0 ≤ (x5_2 : Int) := sq_dec; have q310 : x5_2 < (l1.length : Int) := sq_dec; obtain ⟨ad310, e310, hx310_0⟩ := Kd.at_int HR1.out x5_2 p310 q310; cases e310; replace p310 := eq_true p310; replace q310 := eq_true q310
          go_wp2_with (first | ((with_reducible refine gate_callee (f := 67) rfl ?_); refine gl_ 29 Tryd.func67 #[.int .i64 (rd l1 x5_2)] (h := ?_); (with_reducible refine (spec_l05Val.calls (rd l1 x5_2) false _ A11.out).mono ?_); rintro e w' ⟨rfl, ⟨nd, rfl⟩⟩; refine ⟨_, rfl, ?_⟩))
          go_ret
          exact ⟨by first | rfl | (simp; done) | (simp [*]; done), by repeat (first | exact Drawn0.refl _ | apply Drawn0.step)⟩
        ·
         rw [if_neg c10] at H; exact absurd H (by simp)
       ·
        rw [if_neg c9] at H; exact absurd H (by simp)
      ·
       rw [if_neg c8] at H; have c8b0 : decide (x5_2 < a0) = false := decide_eq_false c8; clear c8; obtain rfl := Option.some.inj H
       go_wp2
       go_ret
       exact ⟨by first | rfl | (simp; done) | (simp [*]; done), by repeat (first | exact Drawn0.refl _ | apply Drawn0.step)⟩

/-! ### spec_RangeHas: function 68 -/
def spec_RangeHas.f (a0_0 : Int) (a0_1 : Int) (a1 : Int) : Option (Bool) := (spec_RangeOk.f a0_0 a0_1).bind fun t313 => (if t313 = true then (if a1 ≥ a0_0 then (some (decide (a1 ≤ a0_1))) else (some false)) else (some false))
set_option maxHeartbeats 8000000 in
set_option maxRecDepth 100000 in
theorem spec_RangeHas.calls (a0_0 : Int) (a0_1 : Int) (a1 : Int) (r : Bool) (w : World) (h : spec_RangeHas.f a0_0 a0_1 a1 = some r) :
  Calls Tryd.prog 68 #[.agg #[.int .i64 a0_0, .int .i64 a0_1], .int .i64 a1] w fun e w' => e = .returned (.bool r) ∧ Below w.heap.size w w' := by
 have hu60 := Tryd.underlying60; have HB := Aside0.mk (Below.refl w.heap.size w); have H : ((spec_RangeOk.f a0_0 a0_1).bind fun t313 => (if t313 = true then (if a1 ≥ a0_0 then (some (decide (a1 ≤ a0_1))) else (some false)) else (some false))) = some r := h; clear h; replace H := Option.bind_eq_some_iff.mp H; obtain ⟨t313, A30, H⟩ := H; (try dsimp only at H); have A3 := Aside0.mk A30; clear A30
 by_cases c4 : t313 = true
 ·
  subst c4; have H1 := ifp_ H
  clear H; have H := H1; clear H1
  by_cases c5 : a1 ≥ a0_0
  ·
   rw [if_pos c5] at H; have c5b0 : decide (a0_0 ≤ a1) = true := decide_eq_true c5; clear c5; obtain rfl := Option.some.inj H
   go_enter Tryd.func68, Tryd.ntmps68
   go_wp2_with (first | ((with_reducible refine gate_dst (N := 2) rfl ?_); refine box_y 2 #[.int .i64 a0_0, .int .i64 a0_1] 60 (h := ?_); intro gb312 hg w6 hbox hb; have n0_ := Aside0.mk (below_step (sq_below HB.out) hb); have n1_ := Aside0.mk (hbox); have n2_ := ge_ hg (below_size (sq_below HB.out)); have n3_ := ge_ hg (below_size (sq_below HB.out)); clear HB; have HB := n0_; have BK312 := n1_; have GW312 := n2_; have GE312 := n3_; clear n0_ n1_ n2_ n3_; clear hb hbox hg; have hcz7_0 := cl_ (v := .int .i64 a0_0) BK312 0; have hcz7_1 := cl_ (v := .int .i64 a0_1) BK312 1; have hfz7_0 := blk_frozen BK312.out 0; have hfz7_1 := blk_frozen BK312.out 1) | ((with_reducible refine gate_callee (f := 58) rfl ?_); refine gl_ 6 Tryd.func58 #[.agg #[.int .i64 a0_0, .int .i64 a0_1]] (h := ?_); (with_reducible refine (spec_RangeOk.calls a0_0 a0_1 true _ A3.out).mono ?_); rintro e w8 ⟨rfl, hb⟩; refine ⟨_, rfl, ?_⟩; replace BK312 := bb_ BK312 hb; replace HB := hb1_ HB hb GE312; (try clear hb); have hcz9_0 := cl_ (v := .int .i64 a0_0) BK312 0; have hcz9_1 := cl_ (v := .int .i64 a0_1) BK312 1; have hfz9_0 := blk_frozen BK312.out 0; have hfz9_1 := blk_frozen BK312.out 1))
   go_ret
   exact ⟨by first | rfl | (simp [errW_none, errW_some] <;> rfl) | (simp [*, errW_none, errW_some] <;> rfl), sq_below1 HB.out GE312.out⟩
  ·
   rw [if_neg c5] at H; have c5b0 : decide (a0_0 ≤ a1) = false := decide_eq_false c5; clear c5; obtain rfl := Option.some.inj H
   go_enter Tryd.func68, Tryd.ntmps68
   go_wp2_with (first | ((with_reducible refine gate_dst (N := 2) rfl ?_); refine box_y 2 #[.int .i64 a0_0, .int .i64 a0_1] 60 (h := ?_); intro gb312 hg w10 hbox hb; have n0_ := Aside0.mk (below_step (sq_below HB.out) hb); have n1_ := Aside0.mk (hbox); have n2_ := ge_ hg (below_size (sq_below HB.out)); have n3_ := ge_ hg (below_size (sq_below HB.out)); clear HB; have HB := n0_; have BK312 := n1_; have GW312 := n2_; have GE312 := n3_; clear n0_ n1_ n2_ n3_; clear hb hbox hg; have hcz11_0 := cl_ (v := .int .i64 a0_0) BK312 0; have hcz11_1 := cl_ (v := .int .i64 a0_1) BK312 1; have hfz11_0 := blk_frozen BK312.out 0; have hfz11_1 := blk_frozen BK312.out 1) | ((with_reducible refine gate_callee (f := 58) rfl ?_); refine gl_ 6 Tryd.func58 #[.agg #[.int .i64 a0_0, .int .i64 a0_1]] (h := ?_); (with_reducible refine (spec_RangeOk.calls a0_0 a0_1 true _ A3.out).mono ?_); rintro e w12 ⟨rfl, hb⟩; refine ⟨_, rfl, ?_⟩; replace BK312 := bb_ BK312 hb; replace HB := hb1_ HB hb GE312; (try clear hb); have hcz13_0 := cl_ (v := .int .i64 a0_0) BK312 0; have hcz13_1 := cl_ (v := .int .i64 a0_1) BK312 1; have hfz13_0 := blk_frozen BK312.out 0; have hfz13_1 := blk_frozen BK312.out 1))
   go_ret
   exact ⟨by first | rfl | (simp [errW_none, errW_some] <;> rfl) | (simp [*, errW_none, errW_some] <;> rfl), sq_below1 HB.out GE312.out⟩
 ·
  replace c4 := Bool.eq_false_iff.mpr c4; subst c4; have H1 := ifn_ H
  clear H; have H := H1; clear H1; obtain rfl := Option.some.inj H
  go_enter Tryd.func68, Tryd.ntmps68
  go_wp2_with (first | ((with_reducible refine gate_dst (N := 2) rfl ?_); refine box_y 2 #[.int .i64 a0_0, .int .i64 a0_1] 60 (h := ?_); intro gb312 hg w14 hbox hb; have n0_ := Aside0.mk (below_step (sq_below HB.out) hb); have n1_ := Aside0.mk (hbox); have n2_ := ge_ hg (below_size (sq_below HB.out)); have n3_ := ge_ hg (below_size (sq_below HB.out)); clear HB; have HB := n0_; have BK312 := n1_; have GW312 := n2_; have GE312 := n3_; clear n0_ n1_ n2_ n3_; clear hb hbox hg; have hcz15_0 := cl_ (v := .int .i64 a0_0) BK312 0; have hcz15_1 := cl_ (v := .int .i64 a0_1) BK312 1; have hfz15_0 := blk_frozen BK312.out 0; have hfz15_1 := blk_frozen BK312.out 1) | ((with_reducible refine gate_callee (f := 58) rfl ?_); refine gl_ 6 Tryd.func58 #[.agg #[.int .i64 a0_0, .int .i64 a0_1]] (h := ?_); (with_reducible refine (spec_RangeOk.calls a0_0 a0_1 false _ A3.out).mono ?_); rintro e w16 ⟨rfl, hb⟩; refine ⟨_, rfl, ?_⟩; replace HB := hb_ HB hb; (try clear hb)))
  go_ret
  exact ⟨by first | rfl | (simp [errW_none, errW_some] <;> rfl) | (simp [*, errW_none, errW_some] <;> rfl), sq_below HB.out⟩

end Go.Proofs.YtfeloencepgdlaaDoor.Q
