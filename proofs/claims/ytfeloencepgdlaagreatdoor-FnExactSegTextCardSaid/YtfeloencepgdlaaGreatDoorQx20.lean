/- Functions of the translation as Lean functions, each with a proof that a call answers so; out of the seat, by this claim's own program prt.py. -/
import Derived.Test.YtfeloencepgdlaaGreatDoorWRepsOne
import Derived.Test.YtfeloencepgdlaaGreatDoorQx0
import Derived.Test.YtfeloencepgdlaaGreatDoorQx19
import Derived.Test.YtfeloencepgdlaaGreatDoorQStep
namespace Go.Proofs.YtfeloencepgdlaaGreatDoor.Q
open Go.RowKit Go.Proofs.YtfeloencepgdlaaGreatDoorW.PrintWords Go.Proofs.YtfeloencepgdlaaGreatDoorW.PrintLast Go.Proofs.YtfeloencepgdlaaGreatDoorW.PrintMore
attribute [local go_sem] max2_int min2_int max_two min_two max_three min_three max_four min_four   -- for this text's walks alone
set_option linter.unusedVariables false
set_option linter.unusedSimpArgs false

/-! ### slices_IndexFunc__impl_SegOk_1: function 67 -/
def slices_IndexFunc__impl_SegOk_1.l0 : Nat → List (S66) → Int → Int → Option (Int)
 | 0, _, _, _ => none
 | k + 1, x0, x7, x8 => if x8 < x7 then (if 0 ≤ x8 then (if x8 < (x0.length : Int) then ((impl_SegOk_1.f ((rd_T66 x0 x8).f0.f0) ((rd_T66 x0 x8).f0.f1) ((rd_T66 x0 x8).f1)).bind fun t285 => (if t285 = true then (some x8) else (slices_IndexFunc__impl_SegOk_1.l0 k x0 x7 (wrap64 (x8 + 1))))) else (none)) else (none)) else (some (-1))
def slices_IndexFunc__impl_SegOk_1.f (k : Nat) (l0 : List (S66))  : Option (Int) := slices_IndexFunc__impl_SegOk_1.l0 k l0 (l0.length : Int) 0
theorem slices_IndexFunc__impl_SegOk_1.mono_l : ∀ k, (∀ y0 y1 y2, LeO (slices_IndexFunc__impl_SegOk_1.l0 k y0 y1 y2) (slices_IndexFunc__impl_SegOk_1.l0 (k + 1) y0 y1 y2))
 | 0 => fun _ _ _ r h => by simp [slices_IndexFunc__impl_SegOk_1.l0] at h
 | k + 1 => by
  have ih0 := slices_IndexFunc__impl_SegOk_1.mono_l k
  ·
   intro y0 y1 y2; unfold slices_IndexFunc__impl_SegOk_1.l0
   repeat' first
   | (with_reducible exact ih0 _ _ _)
   | (with_reducible exact LeO.refl _)
   | (with_reducible exact LeO.none _)
   | (with_reducible refine LeO.ite ?_ ?_)
   | (with_reducible refine LeO.bind ?_ (fun _ => ?_))
   | exact ih0 _ _ _
   | exact LeO.none _
   | refine LeO.ite ?_ ?_
   | refine LeO.bind ?_ (fun _ => ?_)
theorem slices_IndexFunc__impl_SegOk_1.mono : ∀ a0 k, LeO (slices_IndexFunc__impl_SegOk_1.f k a0) (slices_IndexFunc__impl_SegOk_1.f (k + 1) a0) := by
 intro a0 k; have ih0 := slices_IndexFunc__impl_SegOk_1.mono_l k; unfold slices_IndexFunc__impl_SegOk_1.f
 repeat' first
   | (with_reducible exact ih0 _ _ _)
   | (with_reducible exact LeO.refl _)
   | (with_reducible exact LeO.none _)
   | (with_reducible refine LeO.ite ?_ ?_)
   | (with_reducible refine LeO.bind ?_ (fun _ => ?_))
   | exact ih0 _ _ _
   | exact LeO.none _
   | refine LeO.ite ?_ ?_
   | refine LeO.bind ?_ (fun _ => ?_)
set_option maxHeartbeats 8000000 in
set_option maxRecDepth 100000 in
theorem slices_IndexFunc__impl_SegOk_1.calls (k : Nat) (A0 : Option Addr) (c0 : Nat) (l0 : List (S66))  (r : Int) (w : World) (hG0 : GL0 w) (hr0 : Kd.C k66 w A0 l0.length l0) (hc0 : l0.length ≤ c0) (h : slices_IndexFunc__impl_SegOk_1.f k l0 = some r) :
  Calls Tryz.prog 67 #[.slice A0 l0.length c0, .func (.func 45) #[] #[]] w fun e w' => e = .returned (.int .i64 r) ∧ Below w.heap.size w w' := by
 have hu66 := Tryz.underlying66; have HR0 := Aside0.mk hr0; have HC0 := Aside0.mk hc0; clear hr0 hc0; have HB := Aside0.mk (Below.refl w.heap.size w); have HG0 := Aside0.mk hG0; clear hG0; have H : (slices_IndexFunc__impl_SegOk_1.l0 k l0 (l0.length : Int) 0) = some r := h; clear h; have H' := Aside0.mk H; clear H
 go_enter Tryz.func67, Tryz.ntmps67
 go_wp2
 go_loopg [8] k (fun kq v8 w' => ∃ (x8_1 : Int), v8 = .int .i64 x8_1 ∧ Aside0 (slices_IndexFunc__impl_SegOk_1.l0 kq l0 (l0.length : Int) x8_1 = some r) ∧ Aside0 (kq ≤ k) ∧ Aside0 (Below w.heap.size w w'))
 case atStart => exact ⟨(0), (by first | rfl | (simp; done) | (simp [*]; done)), H', ⟨Nat.le_refl _⟩, ⟨sq_below HB.out⟩⟩
 case round =>
  clear H'
  try clear p2
  obtain ⟨x8_1, rfl, HA, HK1, HB⟩ := hrel; cases gk with
  | zero => exact absurd HA.out (by simp [slices_IndexFunc__impl_SegOk_1.l0])
  | succ k1 =>
   have H := HA.out; clear HA; simp only [slices_IndexFunc__impl_SegOk_1.l0] at H
   by_cases c3 : x8_1 < (l0.length : Int)
   ·
    rw [if_pos c3] at H; have c3b0 : decide (x8_1 < (l0.length : Int)) = true := decide_eq_true c3; clear c3
    by_cases c4 : 0 ≤ x8_1
    ·
     rw [if_pos c4] at H; have c4b0 : decide (0 ≤ x8_1) = true := decide_eq_true c4; clear c4
     by_cases c5 : x8_1 < (l0.length : Int)
     ·
      rw [if_pos c5] at H; have c5b0 : decide (x8_1 < (l0.length : Int)) = true := decide_eq_true c5; clear c5; replace H := Option.bind_eq_some_iff.mp H; obtain ⟨t285, A60, H⟩ := H; (try dsimp only at H); have A6 := Aside0.mk A60; clear A60
      by_cases c7 : t285 = true
      ·
       subst c7; have H1 := ifp_ H
       clear H; have H := H1; clear H1; obtain rfl := Option.some.inj H; have p284 : 0 ≤ (x8_1 : Int) := sq_dec; have q284 : x8_1 < (l0.length : Int) := sq_dec; obtain ⟨ad284, e284, hx284_0, hx284_1, hx284_2⟩ := at_T66 HR0.out x8_1 p284 q284; cases e284; replace hx284_0 := (HB.out.cell (World.block_lt_of_cell? w _ hx284_0)).trans hx284_0; replace hx284_1 := (HB.out.cell (World.block_lt_of_cell? w _ hx284_1)).trans hx284_1; replace hx284_2 := (HB.out.cell (World.block_lt_of_cell? w _ hx284_2)).trans hx284_2; replace p284 := eq_true p284; replace q284 := eq_true q284
       go_wp2_with (first | (go_at_call 45; (with_reducible refine (impl_SegOk_1.calls ((rd_T66 l0 x8_1).f0.f0) ((rd_T66 l0 x8_1).f0.f1) ((rd_T66 l0 x8_1).f1) true _ ?side1 A6.out).mono ?_); (case side1 => exact GL0.below HG0.out (sq_below HB.out)); rintro e w8 ⟨rfl, hb⟩; replace HB := hb_ HB hb; (try clear hb)))
       go_ret
       exact ⟨by first | rfl | (simp [errW_none, errW_some] <;> rfl) | (simp [*, errW_none, errW_some] <;> rfl), sq_below HB.out⟩
      ·
       replace c7 := Bool.eq_false_iff.mpr c7; subst c7; have H1 := ifn_ H
       clear H; have H := H1; clear H1; have H' := Aside0.mk H; clear H; have p284 : 0 ≤ (x8_1 : Int) := sq_dec; have q284 : x8_1 < (l0.length : Int) := sq_dec; obtain ⟨ad284, e284, hx284_0, hx284_1, hx284_2⟩ := at_T66 HR0.out x8_1 p284 q284; cases e284; replace hx284_0 := (HB.out.cell (World.block_lt_of_cell? w _ hx284_0)).trans hx284_0; replace hx284_1 := (HB.out.cell (World.block_lt_of_cell? w _ hx284_1)).trans hx284_1; replace hx284_2 := (HB.out.cell (World.block_lt_of_cell? w _ hx284_2)).trans hx284_2; replace p284 := eq_true p284; replace q284 := eq_true q284
       go_wp2_with (first | (go_at_call 45; (with_reducible refine (impl_SegOk_1.calls ((rd_T66 l0 x8_1).f0.f0) ((rd_T66 l0 x8_1).f0.f1) ((rd_T66 l0 x8_1).f1) false _ ?side1 A6.out).mono ?_); (case side1 => exact GL0.below HG0.out (sq_below HB.out)); rintro e w9 ⟨rfl, hb⟩; replace HB := hb_ HB hb; (try clear hb)))
       go_roundg k1
       case measure => have := HK1.out; omega
       case rel => exact ⟨(wrap64 (x8_1 + 1)), (by first | rfl | (simp; done) | (simp [*]; done)), H', ⟨by have := HK1.out; omega⟩, ⟨sq_below HB.out⟩⟩
     ·
      rw [if_neg c5] at H; exact absurd H (by simp)
    ·
     rw [if_neg c4] at H; exact absurd H (by simp)
   ·
    rw [if_neg c3] at H; have c3b0 : decide (x8_1 < (l0.length : Int)) = false := decide_eq_false c3; clear c3; obtain rfl := Option.some.inj H
    go_wp2
    go_ret
    exact ⟨by first | rfl | (simp [errW_none, errW_some] <;> rfl) | (simp [*, errW_none, errW_some] <;> rfl), sq_below HB.out⟩

/-! ### slices_ContainsFunc__impl_SegOk_1: function 44 -/
def slices_ContainsFunc__impl_SegOk_1.f (k : Nat) (l0 : List (S66))  : Option (Bool) := (slices_IndexFunc__impl_SegOk_1.f k l0).bind fun t286 => (some (decide (t286 ≥ 0)))
theorem slices_ContainsFunc__impl_SegOk_1.mono : ∀ a0 k, LeO (slices_ContainsFunc__impl_SegOk_1.f k a0) (slices_ContainsFunc__impl_SegOk_1.f (k + 1) a0) := by
 intro a0 k; unfold slices_ContainsFunc__impl_SegOk_1.f
 repeat' first
   | (with_reducible exact slices_IndexFunc__impl_SegOk_1.mono _ _)
   | (with_reducible exact LeO.refl _)
   | (with_reducible exact LeO.none _)
   | (with_reducible refine LeO.ite ?_ ?_)
   | (with_reducible refine LeO.bind ?_ (fun _ => ?_))
   | exact slices_IndexFunc__impl_SegOk_1.mono _ _
   | exact LeO.none _
   | refine LeO.ite ?_ ?_
   | refine LeO.bind ?_ (fun _ => ?_)
set_option maxHeartbeats 8000000 in
set_option maxRecDepth 100000 in
theorem slices_ContainsFunc__impl_SegOk_1.calls (k : Nat) (A0 : Option Addr) (c0 : Nat) (l0 : List (S66))  (r : Bool) (w : World) (hG0 : GL0 w) (hr0 : Kd.C k66 w A0 l0.length l0) (hc0 : l0.length ≤ c0) (h : slices_ContainsFunc__impl_SegOk_1.f k l0 = some r) :
  Calls Tryz.prog 44 #[.slice A0 l0.length c0, .func (.func 45) #[] #[]] w fun e w' => e = .returned (.bool r) ∧ Below w.heap.size w w' := by
 have HR0 := Aside0.mk hr0; have HC0 := Aside0.mk hc0; clear hr0 hc0; have HB := Aside0.mk (Below.refl w.heap.size w); have HG0 := Aside0.mk hG0; clear hG0; have H : ((slices_IndexFunc__impl_SegOk_1.f k l0).bind fun t286 => (some (decide (t286 ≥ 0)))) = some r := h; clear h; replace H := Option.bind_eq_some_iff.mp H; obtain ⟨t286, A30, H⟩ := H; replace H : (some (decide (t286 ≥ 0))) = some r := H; have A3 := Aside0.mk A30; clear A30; obtain rfl := Option.some.inj H
 go_enter Tryz.func44, Tryz.ntmps44
 go_wp2_with (first | ((with_reducible refine gate_callee (f := 67) rfl ?_); refine gl_ 7 Tryz.func67 #[.slice A0 l0.length c0, .func (.func 45) #[] #[]] (h := ?_); (with_reducible refine (slices_IndexFunc__impl_SegOk_1.calls k _ _ l0  t286 _ ?side3 ?side1 ?side2 A3.out).mono ?_); (case side1 => repeat (first | exact HR0.out | (with_reducible refine Kd.C_alloc ?_ _) | (with_reducible refine Kd.C_drewN ?_ _) | (with_reducible refine Kd.C_drew ?_))); (case side2 => exact HC0.out); (case side3 => exact GL0.below HG0.out (sq_below HB.out)); rintro e w4 ⟨rfl, hb⟩; refine ⟨_, rfl, ?_⟩; replace HB := hb_ HB hb; (try clear hb)))
 go_ret
 exact ⟨by first | rfl | (simp [errW_none, errW_some] <;> rfl) | (simp [*, errW_none, errW_some] <;> rfl), sq_below HB.out⟩

end Go.Proofs.YtfeloencepgdlaaGreatDoor.Q
