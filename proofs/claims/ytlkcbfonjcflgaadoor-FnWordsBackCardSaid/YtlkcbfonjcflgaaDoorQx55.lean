/- Functions of the translation as Lean functions, each with a proof that a call answers so; out of the seat, by this claim's own program prt.py. -/
import Derived.Test.YtlkcbfonjcflgaaDoorWRepsOne
import Derived.Test.YtlkcbfonjcflgaaDoorQx0
import Derived.Test.YtlkcbfonjcflgaaDoorQx44
import Derived.Test.YtlkcbfonjcflgaaDoorQx45
namespace Go.Proofs.YtlkcbfonjcflgaaDoor.Q
open Go.RowKit Go.Proofs.YtlkcbfonjcflgaaDoorW.PrintWords Go.Proofs.YtlkcbfonjcflgaaDoorW.PrintLast Go.Proofs.YtlkcbfonjcflgaaDoorW.PrintMore
attribute [local go_sem] max2_int min2_int max_two min_two max_three min_three max_four min_four   -- for this text's walks alone
set_option linter.unusedVariables false
set_option linter.unusedSimpArgs false

/-! ### spec_DrawWords: function 37 -/
mutual
def spec_DrawWords.l0 : Nat → ByteArray → Int → List Int → Int → Int → Option (ByteArray)
 | 0, _, _, _, _, _ => none
 | k + 1, x4, x5, x743000, x743001, x743002 => if x5 > 0 then ((spec_l01DrawPiece.f x743000 x743001 x743002).bind fun bt746 => (if x4.size + bt746.1.size ≤ 9223372036854775807 then ((spec_l01Cur_once.f x743000 bt746.2.1 bt746.2.2 5).bind fun bt749 => (if bt749.1 = true then (spec_DrawWords.l0 k (x4 ++ bt746.1) (wrap64 (x5 - 1)) x743000 bt749.2.1 bt749.2.2) else (if x4.size + bt746.1.size + 1 ≤ 9223372036854775807 then (spec_DrawWords.l0 k ((x4 ++ bt746.1) ++ (⟨#[32]⟩ : ByteArray)) (wrap64 (x5 - 1)) x743000 bt749.2.1 bt749.2.2) else (none)))) else (none))) else ((spec_l01Cur_once.f x743000 x743001 x743002 25).bind fun bt752 => (if bt752.1 = true then ((spec_l01Cur_pick.f x743000 bt752.2.1 bt752.2.2 3).bind fun bt755 => (spec_DrawWords.l1 k x4 (wrap64 (1 + bt755.1)) x743000 bt755.2.1 bt755.2.2)) else (some x4)))
def spec_DrawWords.l1 : Nat → ByteArray → Int → List Int → Int → Int → Option (ByteArray)
 | 0, _, _, _, _, _ => none
 | k + 1, x4, x6, x743000, x743001, x743002 => if (x4.size : Int) < (wrap64 (4000 - x6)) then ((some (([(⟨#[43, 32]⟩ : ByteArray), (⟨#[59, 32]⟩ : ByteArray), (⟨#[97, 32, 98, 32]⟩ : ByteArray), (⟨#[97, 97, 97, 97, 97, 97, 97, 97, 32]⟩ : ByteArray)] : List ByteArray) : List ByteArray)).bind fun y758 => ((spec_l01Cur_pick.f x743000 x743001 x743002 4).bind fun bt761 => (if 0 ≤ bt761.1 then (if bt761.1 < (y758.length : Int) then (if x4.size + (rdOf ByteArray.empty y758 bt761.1).size ≤ 9223372036854775807 then (spec_DrawWords.l1 k (x4 ++ (rdOf ByteArray.empty y758 bt761.1)) x6 x743000 bt761.2.1 bt761.2.2) else (none)) else (none)) else (none)))) else (some x4)
end
def spec_DrawWords.f (k : Nat) (l0 : List Int) : Option (ByteArray) := (spec_l01Open.f l0).bind fun bt739 => ((spec_l01Cur_size.f bt739.1 bt739.2.1 bt739.2.2 60).bind fun bt743 => (spec_DrawWords.l0 k (⟨#[]⟩ : ByteArray) (wrap64 (1 + bt743.1)) bt739.1 bt743.2.1 bt743.2.2))
theorem spec_DrawWords.mono_l : ∀ k, (∀ y0 y1 y2 y3 y4, LeO (spec_DrawWords.l0 k y0 y1 y2 y3 y4) (spec_DrawWords.l0 (k + 1) y0 y1 y2 y3 y4)) ∧ (∀ y0 y1 y2 y3 y4, LeO (spec_DrawWords.l1 k y0 y1 y2 y3 y4) (spec_DrawWords.l1 (k + 1) y0 y1 y2 y3 y4))
 | 0 => ⟨fun _ _ _ _ _ r h => by simp [spec_DrawWords.l0] at h, fun _ _ _ _ _ r h => by simp [spec_DrawWords.l1] at h⟩
 | k + 1 => by
  obtain ⟨ih0, ih1⟩ := spec_DrawWords.mono_l k; refine ⟨?_, ?_⟩
  ·
   intro y0 y1 y2 y3 y4; unfold spec_DrawWords.l0
   repeat' first
   | (with_reducible exact ih0 _ _ _ _ _)
   | (with_reducible exact ih1 _ _ _ _ _)
   | (with_reducible exact LeO.refl _)
   | (with_reducible exact LeO.none _)
   | (with_reducible refine LeO.ite ?_ ?_)
   | (with_reducible refine LeO.bind ?_ (fun _ => ?_))
   | exact ih0 _ _ _ _ _
   | exact ih1 _ _ _ _ _
   | exact LeO.none _
   | refine LeO.ite ?_ ?_
   | refine LeO.bind ?_ (fun _ => ?_)
  ·
   intro y0 y1 y2 y3 y4; unfold spec_DrawWords.l1
   repeat' first
   | (with_reducible exact ih0 _ _ _ _ _)
   | (with_reducible exact ih1 _ _ _ _ _)
   | (with_reducible exact LeO.refl _)
   | (with_reducible exact LeO.none _)
   | (with_reducible refine LeO.ite ?_ ?_)
   | (with_reducible refine LeO.bind ?_ (fun _ => ?_))
   | exact ih0 _ _ _ _ _
   | exact ih1 _ _ _ _ _
   | exact LeO.none _
   | refine LeO.ite ?_ ?_
   | refine LeO.bind ?_ (fun _ => ?_)
theorem spec_DrawWords.mono : ∀ a0 k, LeO (spec_DrawWords.f k a0) (spec_DrawWords.f (k + 1) a0) := by
 intro a0 k; obtain ⟨ih0, ih1⟩ := spec_DrawWords.mono_l k; unfold spec_DrawWords.f
 repeat' first
   | (with_reducible exact ih0 _ _ _ _ _)
   | (with_reducible exact ih1 _ _ _ _ _)
   | (with_reducible exact LeO.refl _)
   | (with_reducible exact LeO.none _)
   | (with_reducible refine LeO.ite ?_ ?_)
   | (with_reducible refine LeO.bind ?_ (fun _ => ?_))
   | exact ih0 _ _ _ _ _
   | exact ih1 _ _ _ _ _
   | exact LeO.none _
   | refine LeO.ite ?_ ?_
   | refine LeO.bind ?_ (fun _ => ?_)
set_option maxHeartbeats 8000000 in
set_option maxRecDepth 100000 in
theorem spec_DrawWords.calls (k : Nat) (A0 : Option Addr) (c0 : Nat) (l0 : List Int) (r : ByteArray) (w : World) (hr0 : Kd.C (Kd.int .u8) w A0 l0.length l0) (hc0 : l0.length ≤ c0) (h : spec_DrawWords.f k l0 = some r) :
  Calls Tryd.prog 37 #[.slice A0 l0.length c0] w fun e w' => e = .returned (.string r) ∧ Below w.heap.size w w' := by
 have HR0 := Aside0.mk hr0; have HC0 := Aside0.mk hc0; clear hr0 hc0; have HB := Aside0.mk (Below.refl w.heap.size w); have H : ((spec_l01Open.f l0).bind fun bt739 => ((spec_l01Cur_size.f bt739.1 bt739.2.1 bt739.2.2 60).bind fun bt743 => (spec_DrawWords.l0 k (⟨#[]⟩ : ByteArray) (wrap64 (1 + bt743.1)) bt739.1 bt743.2.1 bt743.2.2))) = some r := h; clear h; replace H := Option.bind_eq_some_iff.mp H; obtain ⟨⟨t739, t740, t741⟩, A20, H⟩ := H; replace H : ((spec_l01Cur_size.f t739 t740 t741 60).bind fun bt743 => (spec_DrawWords.l0 k (⟨#[]⟩ : ByteArray) (wrap64 (1 + bt743.1)) t739 bt743.2.1 bt743.2.2)) = some r := H; have A2 := Aside0.mk A20; clear A20; replace H := Option.bind_eq_some_iff.mp H; obtain ⟨⟨t743, t744, t745⟩, A30, H⟩ := H; replace H : (spec_DrawWords.l0 k (⟨#[]⟩ : ByteArray) (wrap64 (1 + t743)) t739 t744 t745) = some r := H; have A3 := Aside0.mk A30; clear A30; have H' := Aside0.mk H; clear H
 go_enter Tryd.func37, Tryd.ntmps37
 go_wp2_with (first | ((with_reducible refine gate_callee (f := 76) rfl ?_); refine goesL_ (some 8) rfl rfl Tryd.func76 (by kernel_rfl) rfl #[.slice A0 l0.length c0] rfl (by (try simp only [List.map_toArray, List.map_cons, List.map_nil]); first | done | rfl | (simp only [List.length_drop, List.length_take]; rfl)) ?_; (with_reducible refine (spec_l01Open.calls _ _ l0 t739 t740 t741 w _ ?side1 ?side2 ?side3 A2.out).mono ?_); (case side1 => repeat (first | (with_reducible first | exact HB.out | apply below_alloc | apply pw_below_drewN | apply below_drew1) | exact HB.out)); (case side2 => exact HR0.out); (case side3 => exact HC0.out); rintro e w4 ⟨g742, rfl, hi, hb, hb2⟩; refine ⟨_, rfl, ?_⟩; have n0_ := Aside0.mk (hb); have n1_ := Aside0.mk (hi); clear HB; have HB := n0_; have HI742 := n1_; clear n0_ n1_; (try clear hb); (try clear hb2); (try clear hk); (try clear hi)) | ((with_reducible refine gate_callee (f := 77) rfl ?_); refine goesL_ (some 10) rfl rfl Tryd.func77 (by kernel_rfl) rfl #[.pointer (some ⟨g742, 0, none⟩), .int .i64 60] rfl (by (try simp only [List.map_toArray, List.map_cons, List.map_nil]); first | done | rfl | (simp only [List.length_drop, List.length_take]; rfl)) ?_; (with_reducible refine (spec_l01Cur_size.calls g742 t739 t740 t741 60 t743 t744 t745 w _ ?side1 ?side2 A3.out).mono ?_); (case side1 => repeat (first | (with_reducible first | exact HI742.out | apply IsS146.alloc | apply IsS146.drewN | apply IsS146.drew | apply IsS146.set_1 | apply IsS146.set_2) | exact HI742.out)); (case side2 => repeat (first | (with_reducible first | exact HB.out | apply below_alloc | apply pw_below_drewN | apply below_drew1 | refine below_set ?_ (IsS146.ge HI742.out)) | exact HB.out)); rintro e w5 ⟨rfl, hi, hb, hk⟩; refine ⟨_, rfl, ?_⟩; have n0_ := Aside0.mk (hb); have n1_ := Aside0.mk (hi); clear HB; clear HI742; have HB := n0_; have HI742 := n1_; clear n0_ n1_; (try clear hb); (try clear hb2); (try clear hk); (try clear hi)))
 go_loopg [4, 5] k (fun kq v4 v5 w' => ∃ (x4_1 : ByteArray) (x5_1 : Int) (x743001_1 : Int) (x743002_1 : Int), v4 = .string x4_1 ∧ v5 = .int .i64 x5_1 ∧ Aside0 (spec_DrawWords.l0 kq x4_1 x5_1 t739 x743001_1 x743002_1 = some r) ∧ Aside0 (kq ≤ k) ∧ Aside0 (IsS146 w w' g742 t739 x743001_1 x743002_1) ∧ Aside0 (Below w.heap.size w w'))
 case atStart => exact ⟨((⟨#[]⟩ : ByteArray)), (wrap64 (1 + t743)), (t744), (t745), (by first | rfl | (simp; done) | (simp [*]; done)), (by first | rfl | (simp; done) | (simp [*]; done)), H', ⟨Nat.le_refl _⟩, ⟨by repeat (first | (with_reducible first | exact HI742.out | apply IsS146.alloc | apply IsS146.drewN | apply IsS146.drew | apply IsS146.set_1 | apply IsS146.set_2) | exact HI742.out)⟩, ⟨by repeat (first | (with_reducible first | exact HB.out | apply below_alloc | apply pw_below_drewN | apply below_drew1 | refine below_set ?_ (IsS146.ge HI742.out)) | exact HB.out)⟩⟩
 case round =>
  clear H'
  try clear p2
  try clear c3
  obtain ⟨x4_1, x5_1, x743001_1, x743002_1, rfl, rfl, HA, HK1, HI742, HB⟩ := hrel; cases gk with
  | zero => exact absurd HA.out (by simp [spec_DrawWords.l0])
  | succ k1 =>
   have H := HA.out; clear HA; simp only [spec_DrawWords.l0] at H
   by_cases c6 : x5_1 > 0
   ·
    rw [if_pos c6] at H; have c6b0 : decide (0 < x5_1) = true := decide_eq_true c6; clear c6; replace H := Option.bind_eq_some_iff.mp H; obtain ⟨⟨t746, t747, t748⟩, A70, H⟩ := H; replace H : (if x4_1.size + t746.size ≤ 9223372036854775807 then ((spec_l01Cur_once.f t739 t747 t748 5).bind fun bt749 => (if bt749.1 = true then (spec_DrawWords.l0 k1 (x4_1 ++ t746) (wrap64 (x5_1 - 1)) t739 bt749.2.1 bt749.2.2) else (if x4_1.size + t746.size + 1 ≤ 9223372036854775807 then (spec_DrawWords.l0 k1 ((x4_1 ++ t746) ++ (⟨#[32]⟩ : ByteArray)) (wrap64 (x5_1 - 1)) t739 bt749.2.1 bt749.2.2) else (none)))) else (none)) = some r := H; have A7 := Aside0.mk A70; clear A70
    by_cases c8 : x4_1.size + t746.size ≤ 9223372036854775807
    ·
     rw [if_pos c8] at H; have c8b0 := eq_true c8; have c8b1 : decide (x4_1.size + t746.size ≤ 9223372036854775807) = true := decide_eq_true c8
     try have c8b2 : (9223372036854775807 < x4_1.size + t746.size) = False := eq_false (Nat.not_lt.2 c8)
     replace H := Option.bind_eq_some_iff.mp H; obtain ⟨⟨t749, t750, t751⟩, A90, H⟩ := H; replace H : (if t749 = true then (spec_DrawWords.l0 k1 (x4_1 ++ t746) (wrap64 (x5_1 - 1)) t739 t750 t751) else (if x4_1.size + t746.size + 1 ≤ 9223372036854775807 then (spec_DrawWords.l0 k1 ((x4_1 ++ t746) ++ (⟨#[32]⟩ : ByteArray)) (wrap64 (x5_1 - 1)) t739 t750 t751) else (none))) = some r := H; have A9 := Aside0.mk A90; clear A90
     by_cases c10 : t749 = true
     ·
      subst c10; have H1 : (spec_DrawWords.l0 k1 (x4_1 ++ t746) (wrap64 (x5_1 - 1)) t739 t750 t751) = some r := by rw [if_pos rfl] at H; exact H
      clear H; have H := H1; clear H1; have H' := Aside0.mk H; clear H
      go_wp2_with (first | ((with_reducible refine gate_callee (f := 85) rfl ?_); refine goesL_ (some 18) rfl rfl Tryd.func85 (by kernel_rfl) rfl #[.pointer (some ⟨g742, 0, none⟩)] rfl (by (try simp only [List.map_toArray, List.map_cons, List.map_nil]); first | done | rfl | (simp only [List.length_drop, List.length_take]; rfl)) ?_; (with_reducible refine (spec_l01DrawPiece.calls g742 t739 x743001_1 x743002_1 t746 t747 t748 w _ ?side1 ?side2 A7.out).mono ?_); (case side1 => repeat (first | (with_reducible first | exact HI742.out | apply IsS146.alloc | apply IsS146.drewN | apply IsS146.drew | apply IsS146.set_1 | apply IsS146.set_2) | exact HI742.out)); (case side2 => repeat (first | (with_reducible first | exact HB.out | apply below_alloc | apply pw_below_drewN | apply below_drew1 | refine below_set ?_ (IsS146.ge HI742.out)) | exact HB.out)); rintro e w11 ⟨rfl, hi, hb, hk⟩; refine ⟨_, rfl, ?_⟩; have n0_ := Aside0.mk (hb); have n1_ := Aside0.mk (hi); clear HB; clear HI742; have HB := n0_; have HI742 := n1_; clear n0_ n1_; (try clear hb); (try clear hb2); (try clear hk); (try clear hi)) | ((with_reducible refine gate_callee (f := 79) rfl ?_); refine goesL_ (some 21) rfl rfl Tryd.func79 (by kernel_rfl) rfl #[.pointer (some ⟨g742, 0, none⟩), .int .i64 5] rfl (by (try simp only [List.map_toArray, List.map_cons, List.map_nil]); first | done | rfl | (simp only [List.length_drop, List.length_take]; rfl)) ?_; (with_reducible refine (spec_l01Cur_once.calls g742 t739 t747 t748 5 true t750 t751 w _ ?side1 ?side2 A9.out).mono ?_); (case side1 => repeat (first | (with_reducible first | exact HI742.out | apply IsS146.alloc | apply IsS146.drewN | apply IsS146.drew | apply IsS146.set_1 | apply IsS146.set_2) | exact HI742.out)); (case side2 => repeat (first | (with_reducible first | exact HB.out | apply below_alloc | apply pw_below_drewN | apply below_drew1 | refine below_set ?_ (IsS146.ge HI742.out)) | exact HB.out)); rintro e w12 ⟨rfl, hi, hb, hk⟩; refine ⟨_, rfl, ?_⟩; have n0_ := Aside0.mk (hb); have n1_ := Aside0.mk (hi); clear HB; clear HI742; have HB := n0_; have HI742 := n1_; clear n0_ n1_; (try clear hb); (try clear hb2); (try clear hk); (try clear hi)))
      go_roundg k1
      case measure => have := HK1.out; omega
      case rel => exact ⟨(x4_1 ++ t746), (wrap64 (x5_1 - 1)), (t750), (t751), (by first | rfl | (simp; done) | (simp [*]; done)), (by first | rfl | (simp; done) | (simp [*]; done)), H', ⟨by have := HK1.out; omega⟩, ⟨by repeat (first | (with_reducible first | exact HI742.out | apply IsS146.alloc | apply IsS146.drewN | apply IsS146.drew | apply IsS146.set_1 | apply IsS146.set_2) | exact HI742.out)⟩, ⟨by repeat (first | (with_reducible first | exact HB.out | apply below_alloc | apply pw_below_drewN | apply below_drew1 | refine below_set ?_ (IsS146.ge HI742.out)) | exact HB.out)⟩⟩
     ·
      replace c10 := Bool.eq_false_iff.mpr c10; subst c10; have H1 : (if x4_1.size + t746.size + 1 ≤ 9223372036854775807 then (spec_DrawWords.l0 k1 ((x4_1 ++ t746) ++ (⟨#[32]⟩ : ByteArray)) (wrap64 (x5_1 - 1)) t739 t750 t751) else (none)) = some r := by rw [if_neg (show ¬ (false = true) by decide)] at H; exact H
      clear H; have H := H1; clear H1
      by_cases c13 : x4_1.size + t746.size + 1 ≤ 9223372036854775807
      ·
       rw [if_pos c13] at H; have c13b0 := eq_true c13; have c13b1 : decide (x4_1.size + t746.size + 1 ≤ 9223372036854775807) = true := decide_eq_true c13
       try have c13b2 : (9223372036854775807 < x4_1.size + t746.size + 1) = False := eq_false (Nat.not_lt.2 c13)
       have H' := Aside0.mk H; clear H
       go_wp2_with (first | ((with_reducible refine gate_callee (f := 85) rfl ?_); refine goesL_ (some 18) rfl rfl Tryd.func85 (by kernel_rfl) rfl #[.pointer (some ⟨g742, 0, none⟩)] rfl (by (try simp only [List.map_toArray, List.map_cons, List.map_nil]); first | done | rfl | (simp only [List.length_drop, List.length_take]; rfl)) ?_; (with_reducible refine (spec_l01DrawPiece.calls g742 t739 x743001_1 x743002_1 t746 t747 t748 w _ ?side1 ?side2 A7.out).mono ?_); (case side1 => repeat (first | (with_reducible first | exact HI742.out | apply IsS146.alloc | apply IsS146.drewN | apply IsS146.drew | apply IsS146.set_1 | apply IsS146.set_2) | exact HI742.out)); (case side2 => repeat (first | (with_reducible first | exact HB.out | apply below_alloc | apply pw_below_drewN | apply below_drew1 | refine below_set ?_ (IsS146.ge HI742.out)) | exact HB.out)); rintro e w14 ⟨rfl, hi, hb, hk⟩; refine ⟨_, rfl, ?_⟩; have n0_ := Aside0.mk (hb); have n1_ := Aside0.mk (hi); clear HB; clear HI742; have HB := n0_; have HI742 := n1_; clear n0_ n1_; (try clear hb); (try clear hb2); (try clear hk); (try clear hi)) | ((with_reducible refine gate_callee (f := 79) rfl ?_); refine goesL_ (some 21) rfl rfl Tryd.func79 (by kernel_rfl) rfl #[.pointer (some ⟨g742, 0, none⟩), .int .i64 5] rfl (by (try simp only [List.map_toArray, List.map_cons, List.map_nil]); first | done | rfl | (simp only [List.length_drop, List.length_take]; rfl)) ?_; (with_reducible refine (spec_l01Cur_once.calls g742 t739 t747 t748 5 false t750 t751 w _ ?side1 ?side2 A9.out).mono ?_); (case side1 => repeat (first | (with_reducible first | exact HI742.out | apply IsS146.alloc | apply IsS146.drewN | apply IsS146.drew | apply IsS146.set_1 | apply IsS146.set_2) | exact HI742.out)); (case side2 => repeat (first | (with_reducible first | exact HB.out | apply below_alloc | apply pw_below_drewN | apply below_drew1 | refine below_set ?_ (IsS146.ge HI742.out)) | exact HB.out)); rintro e w15 ⟨rfl, hi, hb, hk⟩; refine ⟨_, rfl, ?_⟩; have n0_ := Aside0.mk (hb); have n1_ := Aside0.mk (hi); clear HB; clear HI742; have HB := n0_; have HI742 := n1_; clear n0_ n1_; (try clear hb); (try clear hb2); (try clear hk); (try clear hi)))
       go_roundg k1
       case measure => have := HK1.out; omega
       case rel => exact ⟨((x4_1 ++ t746) ++ (⟨#[32]⟩ : ByteArray)), (wrap64 (x5_1 - 1)), (t750), (t751), (by first | rfl | (simp; done) | (simp [*]; done)), (by first | rfl | (simp; done) | (simp [*]; done)), H', ⟨by have := HK1.out; omega⟩, ⟨by repeat (first | (with_reducible first | exact HI742.out | apply IsS146.alloc | apply IsS146.drewN | apply IsS146.drew | apply IsS146.set_1 | apply IsS146.set_2) | exact HI742.out)⟩, ⟨by repeat (first | (with_reducible first | exact HB.out | apply below_alloc | apply pw_below_drewN | apply below_drew1 | refine below_set ?_ (IsS146.ge HI742.out)) | exact HB.out)⟩⟩
      ·
       rw [if_neg c13] at H; exact absurd H (by simp)
    ·
     rw [if_neg c8] at H; exact absurd H (by simp)
   ·
    rw [if_neg c6] at H; have c6b0 : decide (0 < x5_1) = false := decide_eq_false c6; clear c6; replace H := Option.bind_eq_some_iff.mp H; obtain ⟨⟨t752, t753, t754⟩, A160, H⟩ := H; replace H : (if t752 = true then ((spec_l01Cur_pick.f t739 t753 t754 3).bind fun bt755 => (spec_DrawWords.l1 k1 x4_1 (wrap64 (1 + bt755.1)) t739 bt755.2.1 bt755.2.2)) else (some x4_1)) = some r := H; have A16 := Aside0.mk A160; clear A160
    by_cases c17 : t752 = true
    ·
     subst c17; have H1 : ((spec_l01Cur_pick.f t739 t753 t754 3).bind fun bt755 => (spec_DrawWords.l1 k1 x4_1 (wrap64 (1 + bt755.1)) t739 bt755.2.1 bt755.2.2)) = some r := by rw [if_pos rfl] at H; exact H
     clear H; have H := H1; clear H1; replace H := Option.bind_eq_some_iff.mp H; obtain ⟨⟨t755, t756, t757⟩, A180, H⟩ := H; replace H : (spec_DrawWords.l1 k1 x4_1 (wrap64 (1 + t755)) t739 t756 t757) = some r := H; have A18 := Aside0.mk A180; clear A180; have H' := Aside0.mk H; clear H
     go_wp2_with (first | ((with_reducible refine gate_callee (f := 79) rfl ?_); refine goesL_ (some 26) rfl rfl Tryd.func79 (by kernel_rfl) rfl #[.pointer (some ⟨g742, 0, none⟩), .int .i64 25] rfl (by (try simp only [List.map_toArray, List.map_cons, List.map_nil]); first | done | rfl | (simp only [List.length_drop, List.length_take]; rfl)) ?_; (with_reducible refine (spec_l01Cur_once.calls g742 t739 x743001_1 x743002_1 25 true t753 t754 w _ ?side1 ?side2 A16.out).mono ?_); (case side1 => repeat (first | (with_reducible first | exact HI742.out | apply IsS146.alloc | apply IsS146.drewN | apply IsS146.drew | apply IsS146.set_1 | apply IsS146.set_2) | exact HI742.out)); (case side2 => repeat (first | (with_reducible first | exact HB.out | apply below_alloc | apply pw_below_drewN | apply below_drew1 | refine below_set ?_ (IsS146.ge HI742.out)) | exact HB.out)); rintro e w19 ⟨rfl, hi, hb, hk⟩; refine ⟨_, rfl, ?_⟩; have n0_ := Aside0.mk (hb); have n1_ := Aside0.mk (hi); clear HB; clear HI742; have HB := n0_; have HI742 := n1_; clear n0_ n1_; (try clear hb); (try clear hb2); (try clear hk); (try clear hi)) | ((with_reducible refine gate_callee (f := 80) rfl ?_); refine goesL_ (some 28) rfl rfl Tryd.func80 (by kernel_rfl) rfl #[.pointer (some ⟨g742, 0, none⟩), .int .i64 3] rfl (by (try simp only [List.map_toArray, List.map_cons, List.map_nil]); first | done | rfl | (simp only [List.length_drop, List.length_take]; rfl)) ?_; (with_reducible refine (spec_l01Cur_pick.calls g742 t739 t753 t754 3 t755 t756 t757 w _ ?side1 ?side2 A18.out).mono ?_); (case side1 => repeat (first | (with_reducible first | exact HI742.out | apply IsS146.alloc | apply IsS146.drewN | apply IsS146.drew | apply IsS146.set_1 | apply IsS146.set_2) | exact HI742.out)); (case side2 => repeat (first | (with_reducible first | exact HB.out | apply below_alloc | apply pw_below_drewN | apply below_drew1 | refine below_set ?_ (IsS146.ge HI742.out)) | exact HB.out)); rintro e w20 ⟨rfl, hi, hb, hk⟩; refine ⟨_, rfl, ?_⟩; have n0_ := Aside0.mk (hb); have n1_ := Aside0.mk (hi); clear HB; clear HI742; have HB := n0_; have HI742 := n1_; clear n0_ n1_; (try clear hb); (try clear hb2); (try clear hk); (try clear hi)))
     go_loopg [4] k1 (fun kq v4 w' => ∃ (x4_2 : ByteArray) (x743001_2 : Int) (x743002_2 : Int), v4 = .string x4_2 ∧ Aside0 (spec_DrawWords.l1 kq x4_2 (wrap64 (1 + t755)) t739 x743001_2 x743002_2 = some r) ∧ Aside0 (kq ≤ k1) ∧ Aside0 (IsS146 w w' g742 t739 x743001_2 x743002_2) ∧ Aside0 (Below w.heap.size w w'))
     case atStart => exact ⟨(x4_1), (t756), (t757), (by first | rfl | (simp; done) | (simp [*]; done)), H', ⟨Nat.le_refl _⟩, ⟨by repeat (first | (with_reducible first | exact HI742.out | apply IsS146.alloc | apply IsS146.drewN | apply IsS146.drew | apply IsS146.set_1 | apply IsS146.set_2) | exact HI742.out)⟩, ⟨by repeat (first | (with_reducible first | exact HB.out | apply below_alloc | apply pw_below_drewN | apply below_drew1 | refine below_set ?_ (IsS146.ge HI742.out)) | exact HB.out)⟩⟩
     case round =>
      clear H'
      try clear c1
      try clear p2
      try clear c3
      try clear c6
      try clear c6b0
      try clear p6
      try clear c7
      try clear c8
      try clear c8b0
      try clear c8b1
      try clear c8b2
      try clear c10
      try clear c13
      try clear c13b0
      try clear c13b1
      try clear c13b2
      try clear c17
      try clear p2
      obtain ⟨x4_2, x743001_2, x743002_2, rfl, HA, HK2, HI742, HB⟩ := hrel; cases gk with
      | zero => exact absurd HA.out (by simp [spec_DrawWords.l1])
      | succ k2 =>
       have H := HA.out; clear HA; simp only [spec_DrawWords.l1] at H
       by_cases c21 : (x4_2.size : Int) < (wrap64 (4000 - (wrap64 (1 + t755))))
       ·
        rw [if_pos c21] at H; have c21b0 : decide ((x4_2.size : Int) < (wrap64 (4000 - (wrap64 (1 + t755))))) = true := decide_eq_true c21; clear c21; obtain ⟨y758, hy758⟩ : ∃ y_ : List ByteArray, y_ = (([(⟨#[43, 32]⟩ : ByteArray), (⟨#[59, 32]⟩ : ByteArray), (⟨#[97, 32, 98, 32]⟩ : ByteArray), (⟨#[97, 97, 97, 97, 97, 97, 97, 97, 32]⟩ : ByteArray)] : List ByteArray)) := ⟨_, rfl⟩; replace H : ((spec_l01Cur_pick.f t739 x743001_2 x743002_2 4).bind fun bt761 => (if 0 ≤ bt761.1 then (if bt761.1 < (y758.length : Int) then (if x4_2.size + (rdOf ByteArray.empty y758 bt761.1).size ≤ 9223372036854775807 then (spec_DrawWords.l1 k2 (x4_2 ++ (rdOf ByteArray.empty y758 bt761.1)) (wrap64 (1 + t755)) t739 bt761.2.1 bt761.2.2) else (none)) else (none)) else (none))) = some r := by first | (rw [hy758]; with_reducible exact H) | (have H2_ := (Option.bind_some _ _).symm.trans H; rw [hy758]; with_reducible exact H2_) | (have H2_ := (Option.bind_some _ _).symm.trans H; with_reducible exact H2_) | with_reducible exact H | (rw [hy758]; exact H) | exact H
        have Ny758 := Aside0.mk hy758; clear hy758; replace H := Option.bind_eq_some_iff.mp H; obtain ⟨⟨t761, t762, t763⟩, A220, H⟩ := H; replace H : (if 0 ≤ t761 then (if t761 < (y758.length : Int) then (if x4_2.size + (rdOf ByteArray.empty y758 t761).size ≤ 9223372036854775807 then (spec_DrawWords.l1 k2 (x4_2 ++ (rdOf ByteArray.empty y758 t761)) (wrap64 (1 + t755)) t739 t762 t763) else (none)) else (none)) else (none)) = some r := H; have A22 := Aside0.mk A220; clear A220
        by_cases c23 : 0 ≤ t761
        ·
         rw [if_pos c23] at H; have c23b0 : decide (0 ≤ t761) = true := decide_eq_true c23; clear c23
         by_cases c24 : t761 < (y758.length : Int)
         ·
          rw [if_pos c24] at H; have c24b0 : decide (t761 < (y758.length : Int)) = true := decide_eq_true c24; clear c24
          by_cases c25 : x4_2.size + (rdOf ByteArray.empty y758 t761).size ≤ 9223372036854775807
          ·
           rw [if_pos c25] at H; have c25b0 := eq_true c25; have c25b1 : decide (x4_2.size + (rdOf ByteArray.empty y758 t761).size ≤ 9223372036854775807) = true := decide_eq_true c25
           try have c25b2 : (9223372036854775807 < x4_2.size + (rdOf ByteArray.empty y758 t761).size) = False := eq_false (Nat.not_lt.2 c25)
           have H' := Aside0.mk H; clear H
           go_wp2_with (first | ((with_reducible refine gate_dst (N := 36) rfl ?_); refine Kd.R_lit Kd.string _ 9 ?hg (N := 36) ?hd (xs := ([(⟨#[43, 32]⟩ : ByteArray), (⟨#[59, 32]⟩ : ByteArray), (⟨#[97, 32, 98, 32]⟩ : ByteArray), (⟨#[97, 97, 97, 97, 97, 97, 97, 97, 32]⟩ : ByteArray)] : List ByteArray)) (inner := [.string (⟨#[43, 32]⟩ : ByteArray), .string (⟨#[59, 32]⟩ : ByteArray), .string (⟨#[97, 32, 98, 32]⟩ : ByteArray), .string (⟨#[97, 97, 97, 97, 97, 97, 97, 97, 32]⟩ : ByteArray)]) (ok := fun _ => True) (okp := fun _ => True) ?hr ?hp (fun _ hk => hk) trivial (Below.refl _ _) (Nat.le_refl _) (by simp) ?_; (case hd => rfl); (case hg => rfl); (case hr => first | (go_simp; done) | (go_simp; rfl)); (case hp => exact (Reps.one (show Kd.M Kd.string _ _ _ (⟨#[43, 32]⟩ : ByteArray) [.string (⟨#[43, 32]⟩ : ByteArray)] from rfl) (Reps.one (show Kd.M Kd.string _ _ _ (⟨#[59, 32]⟩ : ByteArray) [.string (⟨#[59, 32]⟩ : ByteArray)] from rfl) (Reps.one (show Kd.M Kd.string _ _ _ (⟨#[97, 32, 98, 32]⟩ : ByteArray) [.string (⟨#[97, 32, 98, 32]⟩ : ByteArray)] from rfl) (Reps.one (show Kd.M Kd.string _ _ _ (⟨#[97, 97, 97, 97, 97, 97, 97, 97, 32]⟩ : ByteArray) [.string (⟨#[97, 97, 97, 97, 97, 97, 97, 97, 32]⟩ : ByteArray)] from rfl) (Reps.none _ _)))))); intro v759 w26 ho27 hb hg_ hnew_; clear hg_ hnew_; (first | rw [← Ny758.out] at ho27 | (simp only [Int.reduceToNat] at ho27; rw [← Ny758.out] at ho27)); have n0_ := Aside0.mk (Kd.R_lower ho27 (below_size (by repeat (first | (with_reducible first | exact HB.out | apply below_alloc | apply pw_below_drewN | apply below_drew1 | refine below_set ?_ (IsS146.ge HI742.out)) | exact HB.out)))); have n1_ := Aside0.mk (IsS146.below (by repeat (first | (with_reducible first | exact HI742.out | apply IsS146.alloc | apply IsS146.drewN | apply IsS146.drew | apply IsS146.set_1 | apply IsS146.set_2) | exact HI742.out)) hb); have n2_ := Aside0.mk (below_step (by repeat (first | (with_reducible first | exact HB.out | apply below_alloc | apply pw_below_drewN | apply below_drew1 | refine below_set ?_ (IsS146.ge HI742.out)) | exact HB.out)) hb); clear HI742; clear HB; have HO760 := n0_; have HI742 := n1_; have HB := n2_; clear n0_ n1_ n2_; clear hb ho27) | ((with_reducible refine gate_callee (f := 80) rfl ?_); refine goesL_ (some 38) rfl rfl Tryd.func80 (by kernel_rfl) rfl #[.pointer (some ⟨g742, 0, none⟩), .int .i64 4] rfl (by (try simp only [List.map_toArray, List.map_cons, List.map_nil]); first | done | rfl | (simp only [List.length_drop, List.length_take]; rfl)) ?_; (with_reducible refine (spec_l01Cur_pick.calls g742 t739 x743001_2 x743002_2 4 t761 t762 t763 w _ ?side1 ?side2 A22.out).mono ?_); (case side1 => repeat (first | (with_reducible first | exact HI742.out | apply IsS146.alloc | apply IsS146.drewN | apply IsS146.drew | apply IsS146.set_1 | apply IsS146.set_2) | exact HI742.out)); (case side2 => repeat (first | (with_reducible first | exact HB.out | apply below_alloc | apply pw_below_drewN | apply below_drew1 | refine below_set ?_ (IsS146.ge HI742.out)) | exact HB.out)); rintro e w28 ⟨rfl, hi, hb, hk⟩; refine ⟨_, rfl, ?_⟩; have n0_ := Aside0.mk (Kd.R_mono (Kd.R_keep (IsS146.apart (show IsS146 w _ g742 t739 x743001_2 x743002_2 from by repeat (first | (with_reducible first | exact HI742.out | apply IsS146.alloc | apply IsS146.drewN | apply IsS146.drew | apply IsS146.set_1 | apply IsS146.set_2) | exact HI742.out)) (by (with_reducible repeat (first | apply Kd.R_alloc | apply Kd.R_drewN | apply Kd.R_drew)); exact HO760.out) (by decide)) hk (fun _ h => h.2)) (fun _ h => h.1)); have n1_ := Aside0.mk (hb); have n2_ := Aside0.mk (hi); clear HO760; clear HB; clear HI742; have HO760 := n0_; have HB := n1_; have HI742 := n2_; clear n0_ n1_ n2_; (try clear hb); (try clear hb2); (try clear hk); (try clear hi); obtain ⟨Ao29, co29, eo29⟩ := Kd.R_slice HO760.out; subst eo29; have p764 : 0 ≤ (t761 : Int) := of_decide_eq_true (by first | (with_reducible assumption) | assumption); have q764 : t761 < (y758.length : Int) := of_decide_eq_true (by first | (with_reducible assumption) | assumption); obtain ⟨ad764, e764, hx764_0⟩ := Kd.at_string (Kd.R_reads' HO760.out).2.2 t761 p764 q764; cases e764; replace p764 := eq_true p764; replace q764 := eq_true q764))
           go_roundg k2
           case measure => have := HK1.out; have := HK2.out; omega
           case rel => exact ⟨(x4_2 ++ (rdOf ByteArray.empty y758 t761)), (t762), (t763), (by first | rfl | (simp; done) | (simp [*]; done)), H', ⟨by have := HK1.out; have := HK2.out; omega⟩, ⟨by repeat (first | (with_reducible first | exact HI742.out | apply IsS146.alloc | apply IsS146.drewN | apply IsS146.drew | apply IsS146.set_1 | apply IsS146.set_2) | exact HI742.out)⟩, ⟨by repeat (first | (with_reducible first | exact HB.out | apply below_alloc | apply pw_below_drewN | apply below_drew1 | refine below_set ?_ (IsS146.ge HI742.out)) | exact HB.out)⟩⟩
          ·
           rw [if_neg c25] at H; exact absurd H (by simp)
         ·
          rw [if_neg c24] at H; exact absurd H (by simp)
        ·
         rw [if_neg c23] at H; exact absurd H (by simp)
       ·
        rw [if_neg c21] at H; have c21b0 : decide ((x4_2.size : Int) < (wrap64 (4000 - (wrap64 (1 + t755))))) = false := decide_eq_false c21; clear c21; obtain rfl := Option.some.inj H
        go_wp2
        go_ret
        exact ⟨by first | rfl | (simp [errW_none, errW_some] <;> rfl) | (simp [*, errW_none, errW_some] <;> rfl), by repeat (first | (with_reducible first | exact HB.out | apply below_alloc | apply pw_below_drewN | apply below_drew1 | refine below_set ?_ (IsS146.ge HI742.out)) | exact HB.out)⟩
    ·
     replace c17 := Bool.eq_false_iff.mpr c17; subst c17; have H1 : (some x4_1) = some r := by rw [if_neg (show ¬ (false = true) by decide)] at H; exact H
     clear H; have H := H1; clear H1; obtain rfl := Option.some.inj H
     go_wp2_with (first | ((with_reducible refine gate_callee (f := 79) rfl ?_); refine goesL_ (some 26) rfl rfl Tryd.func79 (by kernel_rfl) rfl #[.pointer (some ⟨g742, 0, none⟩), .int .i64 25] rfl (by (try simp only [List.map_toArray, List.map_cons, List.map_nil]); first | done | rfl | (simp only [List.length_drop, List.length_take]; rfl)) ?_; (with_reducible refine (spec_l01Cur_once.calls g742 t739 x743001_1 x743002_1 25 false t753 t754 w _ ?side1 ?side2 A16.out).mono ?_); (case side1 => repeat (first | (with_reducible first | exact HI742.out | apply IsS146.alloc | apply IsS146.drewN | apply IsS146.drew | apply IsS146.set_1 | apply IsS146.set_2) | exact HI742.out)); (case side2 => repeat (first | (with_reducible first | exact HB.out | apply below_alloc | apply pw_below_drewN | apply below_drew1 | refine below_set ?_ (IsS146.ge HI742.out)) | exact HB.out)); rintro e w30 ⟨rfl, hi, hb, hk⟩; refine ⟨_, rfl, ?_⟩; have n0_ := Aside0.mk (hb); have n1_ := Aside0.mk (hi); clear HB; clear HI742; have HB := n0_; have HI742 := n1_; clear n0_ n1_; (try clear hb); (try clear hb2); (try clear hk); (try clear hi)))
     go_ret
     exact ⟨by first | rfl | (simp [errW_none, errW_some] <;> rfl) | (simp [*, errW_none, errW_some] <;> rfl), by repeat (first | (with_reducible first | exact HB.out | apply below_alloc | apply pw_below_drewN | apply below_drew1 | refine below_set ?_ (IsS146.ge HI742.out)) | exact HB.out)⟩

end Go.Proofs.YtlkcbfonjcflgaaDoor.Q
