/- Functions of the translation as Lean functions, each with a proof that a call answers so; out of the seat, by this claim's own program prt.py. -/
import Derived.Test.YtlkcbfonjcflgaaDoorWTab
import Derived.Test.YtlkcbfonjcflgaaDoorWRepsOne
import Derived.Test.YtlkcbfonjcflgaaDoorWGuard
import Derived.Test.YtlkcbfonjcflgaaDoorQx0
import Derived.Test.YtlkcbfonjcflgaaDoorQx8
import Derived.Test.YtlkcbfonjcflgaaDoorQx29
import Derived.Test.YtlkcbfonjcflgaaDoorQx30
import Derived.Test.YtlkcbfonjcflgaaDoorQx35
namespace Go.Proofs.YtlkcbfonjcflgaaDoor.Q
open Go.RowKit Go.Proofs.YtlkcbfonjcflgaaDoorW.PrintWords Go.Proofs.YtlkcbfonjcflgaaDoorW.PrintLast Go.Proofs.YtlkcbfonjcflgaaDoorW.PrintMore
attribute [local go_sem] max2_int min2_int max_two min_two max_three min_three max_four min_four   -- for this text's walks alone
set_option linter.unusedVariables false
set_option linter.unusedSimpArgs false

/-! ### spec_FactsText: function 16 -/
mutual
def spec_FactsText.j0 : Nat → List ByteArray → Bool → Int → List Int → Option (ByteArray)
 | 0, _, _, _, _ => none
 | k + 1, x1, x23, x239000, x239001 => if x23 = true then (some (⟨#[]⟩ : ByteArray)) else (spec_FactsText.l0 k x1 0 x239000 x239001)
def spec_FactsText.l0 : Nat → List ByteArray → Int → Int → List Int → Option (ByteArray)
 | 0, _, _, _, _ => none
 | k + 1, x1, x5, x239000, x239001 => if x5 < (x1.length : Int) then (if 0 ≤ x5 then ((spec_l07Label.f k (rdOf ByteArray.empty x1 x5)).bind fun t242 => (if t242 = true then (spec_FactsText.l0 k x1 (wrap64 (x5 + 1)) x239000 x239001) else (some (⟨#[]⟩ : ByteArray)))) else (none)) else (spec_FactsText.l1 k x1 (⟨#[]⟩ : ByteArray) 0 x239000 x239001)
def spec_FactsText.l1 : Nat → List ByteArray → ByteArray → Int → Int → List Int → Option (ByteArray)
 | 0, _, _, _, _, _ => none
 | k + 1, x1, x6, x7, x239000, x239001 => if x7 < x239000 then (spec_FactsText.l2 k x1 x6 x7 0 x239000 x239001) else (if x6.toList = ([] : List UInt8) then (some (⟨#[97, 110, 121]⟩ : ByteArray)) else (some x6))
def spec_FactsText.l2 : Nat → List ByteArray → ByteArray → Int → Int → Int → List Int → Option (ByteArray)
 | 0, _, _, _, _, _, _ => none
 | k + 1, x1, x6, x7, x8, x239000, x239001 => if x8 < x239000 then (if 0 ≤ (wrap64 ((wrap64 (x7 * x239000)) + x8)) then (if (wrap64 ((wrap64 (x7 * x239000)) + x8)) < (x239001.length : Int) then ((spec_l07Cap.f x7 x8).bind fun t244 => (if (rd x239001 (wrap64 ((wrap64 (x7 * x239000)) + x8))) = t244 then (spec_FactsText.l2 k x1 x6 x7 (wrap64 (x8 + 1)) x239000 x239001) else (if x8 = 0 then (if 0 ≤ (wrap64 (x7 - 1)) then (if (wrap64 (x7 - 1)) < (x1.length : Int) then (if (rdOf ByteArray.empty x1 (wrap64 (x7 - 1))).size + 4 ≤ 9223372036854775807 then ((spec_l01Digits.f k (rd x239001 (wrap64 ((wrap64 (x7 * x239000)) + x8)))).bind fun t246 => (if (rdOf ByteArray.empty x1 (wrap64 (x7 - 1))).size + 4 + t246.size ≤ 9223372036854775807 then (if x6.toList = ([] : List UInt8) then (if x6.size + (rdOf ByteArray.empty x1 (wrap64 (x7 - 1))).size + 4 + t246.size ≤ 9223372036854775807 then (spec_FactsText.l2 k x1 (x6 ++ (((rdOf ByteArray.empty x1 (wrap64 (x7 - 1))) ++ (⟨#[32, 60, 61, 32]⟩ : ByteArray)) ++ t246)) x7 (wrap64 (x8 + 1)) x239000 x239001) else (none)) else (if x6.size + 2 ≤ 9223372036854775807 then (if x6.size + 2 + (rdOf ByteArray.empty x1 (wrap64 (x7 - 1))).size + 4 + t246.size ≤ 9223372036854775807 then (spec_FactsText.l2 k x1 ((x6 ++ (⟨#[44, 32]⟩ : ByteArray)) ++ (((rdOf ByteArray.empty x1 (wrap64 (x7 - 1))) ++ (⟨#[32, 60, 61, 32]⟩ : ByteArray)) ++ t246)) x7 (wrap64 (x8 + 1)) x239000 x239001) else (none)) else (none))) else (none))) else (none)) else (none)) else (none)) else (if x7 = 0 then (if 0 ≤ (wrap64 (x8 - 1)) then (if (wrap64 (x8 - 1)) < (x1.length : Int) then (if (rdOf ByteArray.empty x1 (wrap64 (x8 - 1))).size + 4 ≤ 9223372036854775807 then ((spec_l01Digits.f k (wrap64 (-(rd x239001 (wrap64 ((wrap64 (x7 * x239000)) + x8)))))).bind fun t248 => (if (rdOf ByteArray.empty x1 (wrap64 (x8 - 1))).size + 4 + t248.size ≤ 9223372036854775807 then (if x6.toList = ([] : List UInt8) then (if x6.size + (rdOf ByteArray.empty x1 (wrap64 (x8 - 1))).size + 4 + t248.size ≤ 9223372036854775807 then (spec_FactsText.l2 k x1 (x6 ++ (((rdOf ByteArray.empty x1 (wrap64 (x8 - 1))) ++ (⟨#[32, 62, 61, 32]⟩ : ByteArray)) ++ t248)) x7 (wrap64 (x8 + 1)) x239000 x239001) else (none)) else (if x6.size + 2 ≤ 9223372036854775807 then (if x6.size + 2 + (rdOf ByteArray.empty x1 (wrap64 (x8 - 1))).size + 4 + t248.size ≤ 9223372036854775807 then (spec_FactsText.l2 k x1 ((x6 ++ (⟨#[44, 32]⟩ : ByteArray)) ++ (((rdOf ByteArray.empty x1 (wrap64 (x8 - 1))) ++ (⟨#[32, 62, 61, 32]⟩ : ByteArray)) ++ t248)) x7 (wrap64 (x8 + 1)) x239000 x239001) else (none)) else (none))) else (none))) else (none)) else (none)) else (none)) else (if 0 ≤ (wrap64 (x7 - 1)) then (if (wrap64 (x7 - 1)) < (x1.length : Int) then (if (rdOf ByteArray.empty x1 (wrap64 (x7 - 1))).size + 3 ≤ 9223372036854775807 then (if 0 ≤ (wrap64 (x8 - 1)) then (if (wrap64 (x8 - 1)) < (x1.length : Int) then (if (rdOf ByteArray.empty x1 (wrap64 (x7 - 1))).size + 3 + (rdOf ByteArray.empty x1 (wrap64 (x8 - 1))).size ≤ 9223372036854775807 then (if (rdOf ByteArray.empty x1 (wrap64 (x7 - 1))).size + 3 + (rdOf ByteArray.empty x1 (wrap64 (x8 - 1))).size + 4 ≤ 9223372036854775807 then ((spec_l01Digits.f k (rd x239001 (wrap64 ((wrap64 (x7 * x239000)) + x8)))).bind fun t251 => (if (rdOf ByteArray.empty x1 (wrap64 (x7 - 1))).size + 3 + (rdOf ByteArray.empty x1 (wrap64 (x8 - 1))).size + 4 + t251.size ≤ 9223372036854775807 then (if x6.toList = ([] : List UInt8) then (if x6.size + (rdOf ByteArray.empty x1 (wrap64 (x7 - 1))).size + 3 + (rdOf ByteArray.empty x1 (wrap64 (x8 - 1))).size + 4 + t251.size ≤ 9223372036854775807 then (spec_FactsText.l2 k x1 (x6 ++ (((((rdOf ByteArray.empty x1 (wrap64 (x7 - 1))) ++ (⟨#[32, 45, 32]⟩ : ByteArray)) ++ (rdOf ByteArray.empty x1 (wrap64 (x8 - 1)))) ++ (⟨#[32, 60, 61, 32]⟩ : ByteArray)) ++ t251)) x7 (wrap64 (x8 + 1)) x239000 x239001) else (none)) else (if x6.size + 2 ≤ 9223372036854775807 then (if x6.size + 2 + (rdOf ByteArray.empty x1 (wrap64 (x7 - 1))).size + 3 + (rdOf ByteArray.empty x1 (wrap64 (x8 - 1))).size + 4 + t251.size ≤ 9223372036854775807 then (spec_FactsText.l2 k x1 ((x6 ++ (⟨#[44, 32]⟩ : ByteArray)) ++ (((((rdOf ByteArray.empty x1 (wrap64 (x7 - 1))) ++ (⟨#[32, 45, 32]⟩ : ByteArray)) ++ (rdOf ByteArray.empty x1 (wrap64 (x8 - 1)))) ++ (⟨#[32, 60, 61, 32]⟩ : ByteArray)) ++ t251)) x7 (wrap64 (x8 + 1)) x239000 x239001) else (none)) else (none))) else (none))) else (none)) else (none)) else (none)) else (none)) else (none)) else (none)) else (none)))))) else (none)) else (none)) else (spec_FactsText.l1 k x1 x6 (wrap64 (x7 + 1)) x239000 x239001)
end
def spec_FactsText.f (k : Nat) (a0_0 : Int) (l0_1 : List Int) (l1 : List ByteArray) : Option (ByteArray) := (spec_l07None.f a0_0 l0_1).bind fun t239 => (if t239 = true then (some (⟨#[110, 111, 110, 101]⟩ : ByteArray)) else ((spec_FactsOk.f k a0_0 l0_1).bind fun t240 => (if t240 = true then (spec_FactsText.j0 k l1 ((l1.length : Int) != (wrap64 (a0_0 - 1))) a0_0 l0_1) else (spec_FactsText.j0 k l1 true a0_0 l0_1))))
theorem spec_FactsText.mono_l : ∀ k, (∀ y0 y1 y2 y3, LeO (spec_FactsText.j0 k y0 y1 y2 y3) (spec_FactsText.j0 (k + 1) y0 y1 y2 y3)) ∧ (∀ y0 y1 y2 y3, LeO (spec_FactsText.l0 k y0 y1 y2 y3) (spec_FactsText.l0 (k + 1) y0 y1 y2 y3)) ∧ (∀ y0 y1 y2 y3 y4, LeO (spec_FactsText.l1 k y0 y1 y2 y3 y4) (spec_FactsText.l1 (k + 1) y0 y1 y2 y3 y4)) ∧ (∀ y0 y1 y2 y3 y4 y5, LeO (spec_FactsText.l2 k y0 y1 y2 y3 y4 y5) (spec_FactsText.l2 (k + 1) y0 y1 y2 y3 y4 y5))
 | 0 => ⟨fun _ _ _ _ r h => by simp [spec_FactsText.j0] at h, fun _ _ _ _ r h => by simp [spec_FactsText.l0] at h, fun _ _ _ _ _ r h => by simp [spec_FactsText.l1] at h, fun _ _ _ _ _ _ r h => by simp [spec_FactsText.l2] at h⟩
 | k + 1 => by
  obtain ⟨ih0, ih1, ih2, ih3⟩ := spec_FactsText.mono_l k; refine ⟨?_, ?_, ?_, ?_⟩
  ·
   intro y0 y1 y2 y3; unfold spec_FactsText.j0
   repeat' first
   | (with_reducible exact ih0 _ _ _ _)
   | (with_reducible exact ih1 _ _ _ _)
   | (with_reducible exact ih2 _ _ _ _ _)
   | (with_reducible exact ih3 _ _ _ _ _ _)
   | (with_reducible exact spec_FactsOk.mono _ _ _)
   | (with_reducible exact spec_l01Digits.mono _ _)
   | (with_reducible exact spec_l07Label.mono _ _)
   | (with_reducible exact LeO.refl _)
   | (with_reducible exact LeO.none _)
   | (with_reducible refine LeO.ite ?_ ?_)
   | (with_reducible refine LeO.bind ?_ (fun _ => ?_))
   | exact ih0 _ _ _ _
   | exact ih1 _ _ _ _
   | exact ih2 _ _ _ _ _
   | exact ih3 _ _ _ _ _ _
   | exact spec_FactsOk.mono _ _ _
   | exact spec_l01Digits.mono _ _
   | exact spec_l07Label.mono _ _
   | exact LeO.none _
   | refine LeO.ite ?_ ?_
   | refine LeO.bind ?_ (fun _ => ?_)
  ·
   intro y0 y1 y2 y3; unfold spec_FactsText.l0
   repeat' first
   | (with_reducible exact ih0 _ _ _ _)
   | (with_reducible exact ih1 _ _ _ _)
   | (with_reducible exact ih2 _ _ _ _ _)
   | (with_reducible exact ih3 _ _ _ _ _ _)
   | (with_reducible exact spec_FactsOk.mono _ _ _)
   | (with_reducible exact spec_l01Digits.mono _ _)
   | (with_reducible exact spec_l07Label.mono _ _)
   | (with_reducible exact LeO.refl _)
   | (with_reducible exact LeO.none _)
   | (with_reducible refine LeO.ite ?_ ?_)
   | (with_reducible refine LeO.bind ?_ (fun _ => ?_))
   | exact ih0 _ _ _ _
   | exact ih1 _ _ _ _
   | exact ih2 _ _ _ _ _
   | exact ih3 _ _ _ _ _ _
   | exact spec_FactsOk.mono _ _ _
   | exact spec_l01Digits.mono _ _
   | exact spec_l07Label.mono _ _
   | exact LeO.none _
   | refine LeO.ite ?_ ?_
   | refine LeO.bind ?_ (fun _ => ?_)
  ·
   intro y0 y1 y2 y3 y4; unfold spec_FactsText.l1
   repeat' first
   | (with_reducible exact ih0 _ _ _ _)
   | (with_reducible exact ih1 _ _ _ _)
   | (with_reducible exact ih2 _ _ _ _ _)
   | (with_reducible exact ih3 _ _ _ _ _ _)
   | (with_reducible exact spec_FactsOk.mono _ _ _)
   | (with_reducible exact spec_l01Digits.mono _ _)
   | (with_reducible exact spec_l07Label.mono _ _)
   | (with_reducible exact LeO.refl _)
   | (with_reducible exact LeO.none _)
   | (with_reducible refine LeO.ite ?_ ?_)
   | (with_reducible refine LeO.bind ?_ (fun _ => ?_))
   | exact ih0 _ _ _ _
   | exact ih1 _ _ _ _
   | exact ih2 _ _ _ _ _
   | exact ih3 _ _ _ _ _ _
   | exact spec_FactsOk.mono _ _ _
   | exact spec_l01Digits.mono _ _
   | exact spec_l07Label.mono _ _
   | exact LeO.none _
   | refine LeO.ite ?_ ?_
   | refine LeO.bind ?_ (fun _ => ?_)
  ·
   intro y0 y1 y2 y3 y4 y5; unfold spec_FactsText.l2
   repeat' first
   | (with_reducible exact ih0 _ _ _ _)
   | (with_reducible exact ih1 _ _ _ _)
   | (with_reducible exact ih2 _ _ _ _ _)
   | (with_reducible exact ih3 _ _ _ _ _ _)
   | (with_reducible exact spec_FactsOk.mono _ _ _)
   | (with_reducible exact spec_l01Digits.mono _ _)
   | (with_reducible exact spec_l07Label.mono _ _)
   | (with_reducible exact LeO.refl _)
   | (with_reducible exact LeO.none _)
   | (with_reducible refine LeO.ite ?_ ?_)
   | (with_reducible refine LeO.bind ?_ (fun _ => ?_))
   | exact ih0 _ _ _ _
   | exact ih1 _ _ _ _
   | exact ih2 _ _ _ _ _
   | exact ih3 _ _ _ _ _ _
   | exact spec_FactsOk.mono _ _ _
   | exact spec_l01Digits.mono _ _
   | exact spec_l07Label.mono _ _
   | exact LeO.none _
   | refine LeO.ite ?_ ?_
   | refine LeO.bind ?_ (fun _ => ?_)
theorem spec_FactsText.mono : ∀ a0 a1 a2 k, LeO (spec_FactsText.f k a0 a1 a2) (spec_FactsText.f (k + 1) a0 a1 a2) := by
 intro a0 a1 a2 k; obtain ⟨ih0, ih1, ih2, ih3⟩ := spec_FactsText.mono_l k; unfold spec_FactsText.f
 repeat' first
   | (with_reducible exact ih0 _ _ _ _)
   | (with_reducible exact ih1 _ _ _ _)
   | (with_reducible exact ih2 _ _ _ _ _)
   | (with_reducible exact ih3 _ _ _ _ _ _)
   | (with_reducible exact spec_FactsOk.mono _ _ _)
   | (with_reducible exact spec_l01Digits.mono _ _)
   | (with_reducible exact spec_l07Label.mono _ _)
   | (with_reducible exact LeO.refl _)
   | (with_reducible exact LeO.none _)
   | (with_reducible refine LeO.ite ?_ ?_)
   | (with_reducible refine LeO.bind ?_ (fun _ => ?_))
   | exact ih0 _ _ _ _
   | exact ih1 _ _ _ _
   | exact ih2 _ _ _ _ _
   | exact ih3 _ _ _ _ _ _
   | exact spec_FactsOk.mono _ _ _
   | exact spec_l01Digits.mono _ _
   | exact spec_l07Label.mono _ _
   | exact LeO.none _
   | refine LeO.ite ?_ ?_
   | refine LeO.bind ?_ (fun _ => ?_)
def spec_FactsText.T20 : Bool × List (List Nat × List Nat) := (true, [([], []), ([], []), ([1], [1]), ([0, 2], [0, 2]), ([3], [3]), ([4], [4]), ([], []), ([], []), ([7], [7]), ([6, 8], [6, 8]), ([9], [9]), ([5, 10], [5, 10]), ([11], [11]), ([], []), ([13], [13]), ([12, 14], [12, 14]), ([15, 14, 0, 1, 2, 3, 4, 5, 6, 7, 8, 9, 10, 11, 12, 13, 14, 15], [15])])
def spec_FactsText.B20 : List Nat := [0, 0, 2, 7, 15, 31, 0, 0, 128, 448, 960, 2047, 4095, 0, 8192, 32767, 65535]
theorem spec_FactsText.tab20 : rtab .any (opsOf Tryd.f16 20) = spec_FactsText.T20 := by kernel_rfl
theorem spec_FactsText.bits20 : waitsOk spec_FactsText.T20.2 spec_FactsText.B20 = true := by kernel_rfl
def spec_FactsText.T22 : Bool × List (List Nat × List Nat) := (true, [([], []), ([], []), ([1], [1]), ([0, 2], [0, 2]), ([3], [3]), ([4], [4]), ([], []), ([6], [6]), ([5, 7], [5, 7]), ([8, 7, 0, 1, 2, 3, 4, 5, 6, 7, 8], [8])])
def spec_FactsText.B22 : List Nat := [0, 0, 2, 7, 15, 31, 0, 64, 255, 511]
theorem spec_FactsText.tab22 : rtab .any (opsOf Tryd.f16 22) = spec_FactsText.T22 := by kernel_rfl
theorem spec_FactsText.bits22 : waitsOk spec_FactsText.T22.2 spec_FactsText.B22 = true := by kernel_rfl
def spec_FactsText.T24 : Bool × List (List Nat × List Nat) := (true, [([], []), ([], []), ([1], [1]), ([0, 2], [0, 2]), ([3], [3]), ([4], [4]), ([], []), ([6], [6]), ([7], [7]), ([5, 8], [5, 8]), ([9, 8, 0, 1, 2, 3, 4, 5, 6, 7, 8, 9], [9])])
def spec_FactsText.B24 : List Nat := [0, 0, 2, 7, 15, 31, 0, 64, 192, 511, 1023]
theorem spec_FactsText.tab24 : rtab .any (opsOf Tryd.f16 24) = spec_FactsText.T24 := by kernel_rfl
theorem spec_FactsText.bits24 : waitsOk spec_FactsText.T24.2 spec_FactsText.B24 = true := by kernel_rfl
set_option maxHeartbeats 8000000 in
set_option maxRecDepth 100000 in
theorem spec_FactsText.calls (k : Nat) (a0_0 : Int) (A0_1 : Option Addr) (c0_1 : Nat) (l0_1 : List Int) (A1 : Option Addr) (c1 : Nat) (l1 : List ByteArray) (r : ByteArray) (w : World) (hr0_1 : Kd.C (Kd.int .i64) w A0_1 l0_1.length l0_1) (hc0_1 : l0_1.length ≤ c0_1) (hr1 : Kd.C Kd.string w A1 l1.length l1) (hc1 : l1.length ≤ c1) (h : spec_FactsText.f k a0_0 l0_1 l1 = some r) :
  Calls Tryd.prog 16 #[.agg #[.int .i64 a0_0, .slice A0_1 l0_1.length c0_1], .slice A1 l1.length c1] w fun e w' => e = .returned (.string r) ∧ Below w.heap.size w w' := by
 have hu37 := Tryd.underlying37; have HR0_1 := Aside0.mk hr0_1; have HC0_1 := Aside0.mk hc0_1; clear hr0_1 hc0_1; have HR1 := Aside0.mk hr1; have HC1 := Aside0.mk hc1; clear hr1 hc1; have HB := Aside0.mk (Below.refl w.heap.size w); have H : ((spec_l07None.f a0_0 l0_1).bind fun t239 => (if t239 = true then (some (⟨#[110, 111, 110, 101]⟩ : ByteArray)) else ((spec_FactsOk.f k a0_0 l0_1).bind fun t240 => (if t240 = true then (spec_FactsText.j0 k l1 ((l1.length : Int) != (wrap64 (a0_0 - 1))) a0_0 l0_1) else (spec_FactsText.j0 k l1 true a0_0 l0_1))))) = some r := h; clear h; replace H := Option.bind_eq_some_iff.mp H; obtain ⟨t239, A30, H⟩ := H; replace H : (if t239 = true then (some (⟨#[110, 111, 110, 101]⟩ : ByteArray)) else ((spec_FactsOk.f k a0_0 l0_1).bind fun t240 => (if t240 = true then (spec_FactsText.j0 k l1 ((l1.length : Int) != (wrap64 (a0_0 - 1))) a0_0 l0_1) else (spec_FactsText.j0 k l1 true a0_0 l0_1)))) = some r := H; have A3 := Aside0.mk A30; clear A30
 by_cases c4 : t239 = true
 ·
  subst c4; have H1 : (some (⟨#[110, 111, 110, 101]⟩ : ByteArray)) = some r := by rw [if_pos rfl] at H; exact H
  clear H; have H := H1; clear H1; obtain rfl := Option.some.inj H
  go_enter Tryd.func16, Tryd.ntmps16
  go_wp2_with (first | ((with_reducible refine gate_dst (N := 2) rfl ?_); (try (refine gate_guard (by rfl) ?_; dsimp only)); refine box_event ?hg (N := 2) ?hd (cs := #[.int .i64 a0_0, .slice A0_1 l0_1.length c0_1]) (t := 37) ?hr ?_; (case hd => rfl); (case hg => rfl); (case hr => first | (go_simp; done) | (go_simp; rfl)); intro gb238 hg w5 hbox hb; have n0_ := Aside0.mk (below_step (by repeat (first | (with_reducible first | exact HB.out | apply below_alloc | apply pw_below_drewN | apply below_drew1) | exact HB.out)) hb); have n1_ := Aside0.mk (hbox); have n2_ := Aside0.mk ((by rw [hg]; exact (below_size (by repeat (first | (with_reducible first | exact HB.out | apply below_alloc | apply pw_below_drewN | apply below_drew1) | exact HB.out))) : w.heap.size ≤ gb238)); have n3_ := Aside0.mk ((by rw [hg]; exact (below_size (by repeat (first | (with_reducible first | exact HB.out | apply below_alloc | apply pw_below_drewN | apply below_drew1) | exact HB.out))) : w.heap.size ≤ gb238)); clear HB; have HB := n0_; have BK238 := n1_; have GW238 := n2_; have GE238 := n3_; clear n0_ n1_ n2_ n3_; clear hb hbox hg; have hcz6_0 : w5.cell? ⟨gb238, 0, none⟩ = some (.int .i64 a0_0) := (blk_cell BK238.out 0).trans rfl; have hcz6_1 : w5.cell? ⟨gb238, 1, none⟩ = some (.slice A0_1 l0_1.length c0_1) := (blk_cell BK238.out 1).trans rfl; have hfz6_0 := blk_frozen BK238.out 0; have hfz6_1 := blk_frozen BK238.out 1) | ((with_reducible refine gate_callee (f := 46) rfl ?_); refine goesL_ (some 12) rfl rfl Tryd.func46 (by kernel_rfl) rfl #[.agg #[.int .i64 a0_0, .slice A0_1 l0_1.length c0_1]] rfl (by (try simp only [List.map_toArray, List.map_cons, List.map_nil]); first | done | rfl | (simp only [List.length_drop, List.length_take]; rfl)) ?_; (with_reducible refine (spec_l07None.calls a0_0 _ _ l0_1 true _ ?side1 ?side2 A3.out).mono ?_); (case side1 => repeat (first | exact (Kd.C_below HR0_1.out HB.out) | (with_reducible refine Kd.C_alloc ?_ _) | (with_reducible refine Kd.C_drewN ?_ _) | (with_reducible refine Kd.C_drew ?_))); (case side2 => exact HC0_1.out); rintro e w7 ⟨rfl, hb⟩; refine ⟨_, rfl, ?_⟩; have n0_ := Aside0.mk (below_step (by repeat (first | (with_reducible first | exact HB.out | apply below_alloc | apply pw_below_drewN | apply below_drew1) | exact HB.out)) hb); clear HB; have HB := n0_; clear n0_; (try clear hb); (try clear hb2); (try clear hk); (try clear hi)))
  go_ret
  exact ⟨by first | rfl | (simp [errW_none, errW_some] <;> rfl) | (simp [*, errW_none, errW_some] <;> rfl), by repeat (first | (with_reducible first | exact HB.out | apply below_alloc | apply pw_below_drewN | apply below_drew1) | exact HB.out)⟩
 ·
  replace c4 := Bool.eq_false_iff.mpr c4; subst c4; have H1 : ((spec_FactsOk.f k a0_0 l0_1).bind fun t240 => (if t240 = true then (spec_FactsText.j0 k l1 ((l1.length : Int) != (wrap64 (a0_0 - 1))) a0_0 l0_1) else (spec_FactsText.j0 k l1 true a0_0 l0_1))) = some r := by rw [if_neg (show ¬ (false = true) by decide)] at H; exact H
  clear H; have H := H1; clear H1; have HC8 := Aside0.mk H; clear H
  go_enter Tryd.func16, Tryd.ntmps16
  go_upto_region 3 with (first | ((with_reducible refine gate_dst (N := 2) rfl ?_); (try (refine gate_guard (by rfl) ?_; dsimp only)); refine box_event ?hg (N := 2) ?hd (cs := #[.int .i64 a0_0, .slice A0_1 l0_1.length c0_1]) (t := 37) ?hr ?_; (case hd => rfl); (case hg => rfl); (case hr => first | (go_simp; done) | (go_simp; rfl)); intro gb238 hg w9 hbox hb; have n0_ := Aside0.mk (below_step (by repeat (first | (with_reducible first | exact HB.out | apply below_alloc | apply pw_below_drewN | apply below_drew1) | exact HB.out)) hb); have n1_ := Aside0.mk (hbox); have n2_ := Aside0.mk ((by rw [hg]; exact (below_size (by repeat (first | (with_reducible first | exact HB.out | apply below_alloc | apply pw_below_drewN | apply below_drew1) | exact HB.out))) : w.heap.size ≤ gb238)); have n3_ := Aside0.mk ((by rw [hg]; exact (below_size (by repeat (first | (with_reducible first | exact HB.out | apply below_alloc | apply pw_below_drewN | apply below_drew1) | exact HB.out))) : w.heap.size ≤ gb238)); clear HB; have HB := n0_; have BK238 := n1_; have GW238 := n2_; have GE238 := n3_; clear n0_ n1_ n2_ n3_; clear hb hbox hg; have hcz10_0 : w9.cell? ⟨gb238, 0, none⟩ = some (.int .i64 a0_0) := (blk_cell BK238.out 0).trans rfl; have hcz10_1 : w9.cell? ⟨gb238, 1, none⟩ = some (.slice A0_1 l0_1.length c0_1) := (blk_cell BK238.out 1).trans rfl; have hfz10_0 := blk_frozen BK238.out 0; have hfz10_1 := blk_frozen BK238.out 1) | ((with_reducible refine gate_callee (f := 46) rfl ?_); refine goesL_ (some 12) rfl rfl Tryd.func46 (by kernel_rfl) rfl #[.agg #[.int .i64 a0_0, .slice A0_1 l0_1.length c0_1]] rfl (by (try simp only [List.map_toArray, List.map_cons, List.map_nil]); first | done | rfl | (simp only [List.length_drop, List.length_take]; rfl)) ?_; (with_reducible refine (spec_l07None.calls a0_0 _ _ l0_1 false _ ?side1 ?side2 A3.out).mono ?_); (case side1 => repeat (first | exact (Kd.C_below HR0_1.out HB.out) | (with_reducible refine Kd.C_alloc ?_ _) | (with_reducible refine Kd.C_drewN ?_ _) | (with_reducible refine Kd.C_drew ?_))); (case side2 => exact HC0_1.out); rintro e w11 ⟨rfl, hb⟩; refine ⟨_, rfl, ?_⟩; have n0_ := Aside0.mk (blk_below (g := gb238) (o := .cells #[.int .i64 a0_0, .slice A0_1 l0_1.length c0_1] 37 (0, 0)) (by (with_reducible repeat (first | refine blk_drewN ?_ _ | refine blk_drew ?_ | refine blk_alloc ?_ _)); exact BK238.out) hb); have n1_ := Aside0.mk (below_step (by repeat (first | (with_reducible first | exact HB.out | apply below_alloc | apply pw_below_drewN | apply below_drew1 | refine below_set ?_ GE238.out) | exact HB.out)) hb); clear BK238; clear HB; have BK238 := n0_; have HB := n1_; clear n0_ n1_; (try clear hb); (try clear hb2); (try clear hk); (try clear hi)))
  (try simp only [Act.put, List.setIfInBounds_toArray, List.set_cons_zero, List.set_cons_succ])
  go_cut [23] (fun v23 wc => ∃ (kq : Nat) (x23_7 : Bool), v23 = .bool x23_7 ∧ Aside0 (spec_FactsText.j0 kq l1 x23_7 a0_0 l0_1 = some r) ∧ Aside0 (kq ≤ k) ∧ Aside0 (wc.heap[gb238]? = some (.cells #[.int .i64 a0_0, (.slice A0_1 l0_1.length c0_1)] 37 (0, 0))) ∧ Aside0 (Below w.heap.size w wc))
  case first =>
   have H := HC8.out; clear HC8; replace H := Option.bind_eq_some_iff.mp H; obtain ⟨t240, A120, H⟩ := H; replace H : (if t240 = true then (spec_FactsText.j0 k l1 ((l1.length : Int) != (wrap64 (a0_0 - 1))) a0_0 l0_1) else (spec_FactsText.j0 k l1 true a0_0 l0_1)) = some r := H; have A12 := Aside0.mk A120; clear A120
   by_cases c13 : t240 = true
   ·
    subst c13; have H1 : (spec_FactsText.j0 k l1 ((l1.length : Int) != (wrap64 (a0_0 - 1))) a0_0 l0_1) = some r := by rw [if_pos rfl] at H; exact H
    clear H; have H := H1; clear H1; have H' := Aside0.mk H; clear H; have hcz14_0 : w11.cell? ⟨gb238, 0, none⟩ = some (.int .i64 a0_0) := (blk_cell BK238.out 0).trans rfl; have hcz14_1 : w11.cell? ⟨gb238, 1, none⟩ = some (.slice A0_1 l0_1.length c0_1) := (blk_cell BK238.out 1).trans rfl; have hfz14_0 := blk_frozen BK238.out 0; have hfz14_1 := blk_frozen BK238.out 1
    go_wp2_with (first | ((with_reducible refine gate_callee (f := 47) rfl ?_); refine goesL_ (some 14) rfl rfl Tryd.func47 (by kernel_rfl) rfl #[.agg #[.int .i64 a0_0, .slice A0_1 l0_1.length c0_1]] rfl (by (try simp only [List.map_toArray, List.map_cons, List.map_nil]); first | done | rfl | (simp only [List.length_drop, List.length_take]; rfl)) ?_; (with_reducible refine (spec_FactsOk.calls k a0_0 _ _ l0_1 true _ ?side1 ?side2 A12.out).mono ?_); (case side1 => repeat (first | exact (Kd.C_below HR0_1.out HB.out) | (with_reducible refine Kd.C_alloc ?_ _) | (with_reducible refine Kd.C_drewN ?_ _) | (with_reducible refine Kd.C_drew ?_))); (case side2 => exact HC0_1.out); rintro e w15 ⟨rfl, hb⟩; refine ⟨_, rfl, ?_⟩; have n0_ := Aside0.mk (blk_below (g := gb238) (o := .cells #[.int .i64 a0_0, .slice A0_1 l0_1.length c0_1] 37 (0, 0)) (by (with_reducible repeat (first | refine blk_drewN ?_ _ | refine blk_drew ?_ | refine blk_alloc ?_ _)); exact BK238.out) hb); have n1_ := Aside0.mk (below_step (by repeat (first | (with_reducible first | exact HB.out | apply below_alloc | apply pw_below_drewN | apply below_drew1 | refine below_set ?_ GE238.out) | exact HB.out)) hb); clear BK238; clear HB; have BK238 := n0_; have HB := n1_; clear n0_ n1_; (try clear hb); (try clear hb2); (try clear hk); (try clear hi); have hcz16_0 : w15.cell? ⟨gb238, 0, none⟩ = some (.int .i64 a0_0) := (blk_cell BK238.out 0).trans rfl; have hcz16_1 : w15.cell? ⟨gb238, 1, none⟩ = some (.slice A0_1 l0_1.length c0_1) := (blk_cell BK238.out 1).trans rfl; have hfz16_0 := blk_frozen BK238.out 0; have hfz16_1 := blk_frozen BK238.out 1))
    go_meet
    case rel => exact ⟨_, (((l1.length : Int) != (wrap64 (a0_0 - 1)))), (by first | rfl | (simp; done) | (simp [*]; done)), H', ⟨by first | omega | exact Nat.le_refl _⟩, ⟨by (with_reducible repeat (first | refine blk_drewN ?_ _ | refine blk_drew ?_ | refine blk_alloc ?_ _)); exact BK238.out⟩, ⟨by repeat (first | (with_reducible first | exact HB.out | apply below_alloc | apply pw_below_drewN | apply below_drew1 | refine below_set ?_ GE238.out) | exact HB.out)⟩⟩
   ·
    replace c13 := Bool.eq_false_iff.mpr c13; subst c13; have H1 : (spec_FactsText.j0 k l1 true a0_0 l0_1) = some r := by rw [if_neg (show ¬ (false = true) by decide)] at H; exact H
    clear H; have H := H1; clear H1; have H' := Aside0.mk H; clear H; have hcz17_0 : w11.cell? ⟨gb238, 0, none⟩ = some (.int .i64 a0_0) := (blk_cell BK238.out 0).trans rfl; have hcz17_1 : w11.cell? ⟨gb238, 1, none⟩ = some (.slice A0_1 l0_1.length c0_1) := (blk_cell BK238.out 1).trans rfl; have hfz17_0 := blk_frozen BK238.out 0; have hfz17_1 := blk_frozen BK238.out 1
    go_wp2_with (first | ((with_reducible refine gate_callee (f := 47) rfl ?_); refine goesL_ (some 14) rfl rfl Tryd.func47 (by kernel_rfl) rfl #[.agg #[.int .i64 a0_0, .slice A0_1 l0_1.length c0_1]] rfl (by (try simp only [List.map_toArray, List.map_cons, List.map_nil]); first | done | rfl | (simp only [List.length_drop, List.length_take]; rfl)) ?_; (with_reducible refine (spec_FactsOk.calls k a0_0 _ _ l0_1 false _ ?side1 ?side2 A12.out).mono ?_); (case side1 => repeat (first | exact (Kd.C_below HR0_1.out HB.out) | (with_reducible refine Kd.C_alloc ?_ _) | (with_reducible refine Kd.C_drewN ?_ _) | (with_reducible refine Kd.C_drew ?_))); (case side2 => exact HC0_1.out); rintro e w18 ⟨rfl, hb⟩; refine ⟨_, rfl, ?_⟩; have n0_ := Aside0.mk (blk_below (g := gb238) (o := .cells #[.int .i64 a0_0, .slice A0_1 l0_1.length c0_1] 37 (0, 0)) (by (with_reducible repeat (first | refine blk_drewN ?_ _ | refine blk_drew ?_ | refine blk_alloc ?_ _)); exact BK238.out) hb); have n1_ := Aside0.mk (below_step (by repeat (first | (with_reducible first | exact HB.out | apply below_alloc | apply pw_below_drewN | apply below_drew1 | refine below_set ?_ GE238.out) | exact HB.out)) hb); clear BK238; clear HB; have BK238 := n0_; have HB := n1_; clear n0_ n1_; (try clear hb); (try clear hb2); (try clear hk); (try clear hi)))
    go_meet
    case rel => exact ⟨_, (true), (by first | rfl | (simp; done) | (simp [*]; done)), H', ⟨by first | omega | exact Nat.le_refl _⟩, ⟨by (with_reducible repeat (first | refine blk_drewN ?_ _ | refine blk_drew ?_ | refine blk_alloc ?_ _)); exact BK238.out⟩, ⟨by repeat (first | (with_reducible first | exact HB.out | apply below_alloc | apply pw_below_drewN | apply below_drew1 | refine below_set ?_ GE238.out) | exact HB.out)⟩⟩
  case rest =>
   clear HC8
   try clear c1
   try clear p2
   try clear c4
   try clear p6
   try clear c13
   try clear c16
   try clear hcz10_0
   try clear hcz10_1
   try clear hcz14_0
   try clear hcz14_1
   try clear hcz16_0
   try clear hcz16_1
   try clear hcz17_0
   try clear hcz17_1
   try clear hcz6_0
   try clear hcz6_1
   try clear hfz10_0
   try clear hfz10_1
   try clear hfz14_0
   try clear hfz14_1
   try clear hfz16_0
   try clear hfz16_1
   try clear hfz17_0
   try clear hfz17_1
   try clear hfz6_0
   try clear hfz6_1
   obtain ⟨kq, x23_7, rfl, HA, HJ7, BK238, HB⟩ := hcut; cases kq with
   | zero => exact absurd HA.out (by simp [spec_FactsText.j0])
   | succ kj7 =>
    have H := HA.out; clear HA; simp only [spec_FactsText.j0] at H
    by_cases c19 : x23_7 = true
    ·
     subst c19; have H1 : (some (⟨#[]⟩ : ByteArray)) = some r := by rw [if_pos rfl] at H; exact H
     clear H; have H := H1; clear H1; obtain rfl := Option.some.inj H
     go_wp2
     go_ret
     exact ⟨by first | rfl | (simp [errW_none, errW_some] <;> rfl) | (simp [*, errW_none, errW_some] <;> rfl), by repeat (first | (with_reducible first | exact HB.out | apply below_alloc | apply pw_below_drewN | apply below_drew1 | refine below_set ?_ GE238.out) | exact HB.out)⟩
    ·
     replace c19 := Bool.eq_false_iff.mpr c19; subst c19; have H1 : (spec_FactsText.l0 kj7 l1 0 a0_0 l0_1) = some r := by rw [if_neg (show ¬ (false = true) by decide)] at H; exact H
     clear H; have H := H1; clear H1; have H' := Aside0.mk H; clear H
     go_wp2
     go_loopg [5] kj7 (fun kq v5 w' => ∃ (x5_2 : Int), v5 = .int .i64 x5_2 ∧ Aside0 (spec_FactsText.l0 kq l1 x5_2 a0_0 l0_1 = some r) ∧ Aside0 (kq ≤ kj7) ∧ Aside0 (w'.heap[gb238]? = some (.cells #[.int .i64 a0_0, (.slice A0_1 l0_1.length c0_1)] 37 (0, 0))) ∧ Aside0 (Below w.heap.size w w'))
     case atStart => exact ⟨(0), (by first | rfl | (simp; done) | (simp [*]; done)), H', ⟨Nat.le_refl _⟩, ⟨by (with_reducible repeat (first | refine blk_drewN ?_ _ | refine blk_drew ?_ | refine blk_alloc ?_ _)); exact BK238.out⟩, ⟨by repeat (first | (with_reducible first | exact HB.out | apply below_alloc | apply pw_below_drewN | apply below_drew1 | refine below_set ?_ GE238.out) | exact HB.out)⟩⟩
     case round =>
      clear H'
      try clear c1
      try clear p2
      try clear c4
      try clear p6
      try clear c13
      try clear c16
      try clear c19
      try clear hcz10_0
      try clear hcz10_1
      try clear hcz14_0
      try clear hcz14_1
      try clear hcz16_0
      try clear hcz16_1
      try clear hcz17_0
      try clear hcz17_1
      try clear hcz6_0
      try clear hcz6_1
      try clear hfz10_0
      try clear hfz10_1
      try clear hfz14_0
      try clear hfz14_1
      try clear hfz16_0
      try clear hfz16_1
      try clear hfz17_0
      try clear hfz17_1
      try clear hfz6_0
      try clear hfz6_1
      try clear p2
      try clear p6
      obtain ⟨x5_2, rfl, HA, HK2, BK238, HB⟩ := hrel; cases gk with
      | zero => exact absurd HA.out (by simp [spec_FactsText.l0])
      | succ k2 =>
       have H := HA.out; clear HA; simp only [spec_FactsText.l0] at H
       by_cases c20 : x5_2 < (l1.length : Int)
       ·
        rw [if_pos c20] at H; have c20b0 : decide (x5_2 < (l1.length : Int)) = true := decide_eq_true c20; clear c20
        by_cases c21 : 0 ≤ x5_2
        ·
         rw [if_pos c21] at H; have c21b0 : decide (0 ≤ x5_2) = true := decide_eq_true c21; clear c21; replace H := Option.bind_eq_some_iff.mp H; obtain ⟨t242, A220, H⟩ := H; replace H : (if t242 = true then (spec_FactsText.l0 k2 l1 (wrap64 (x5_2 + 1)) a0_0 l0_1) else (some (⟨#[]⟩ : ByteArray))) = some r := H; have A22 := Aside0.mk A220; clear A220
         by_cases c23 : t242 = true
         ·
          subst c23; have H1 : (spec_FactsText.l0 k2 l1 (wrap64 (x5_2 + 1)) a0_0 l0_1) = some r := by rw [if_pos rfl] at H; exact H
          clear H; have H := H1; clear H1; have H' := Aside0.mk H; clear H; have p241 : 0 ≤ (x5_2 : Int) := of_decide_eq_true (by first | (with_reducible assumption) | assumption); have q241 : x5_2 < (l1.length : Int) := of_decide_eq_true (by first | (with_reducible assumption) | assumption); obtain ⟨ad241, e241, hx241_0⟩ := Kd.at_string HR1.out x5_2 p241 q241; cases e241; replace hx241_0 := (HB.out.cell (World.block_lt_of_cell? w _ hx241_0)).trans hx241_0; replace p241 := eq_true p241; replace q241 := eq_true q241
          go_wp2_with (first | ((with_reducible refine gate_callee (f := 48) rfl ?_); refine goesL_ (some 34) rfl rfl Tryd.func48 (by kernel_rfl) rfl #[.string (rdOf ByteArray.empty l1 x5_2)] rfl (by (try simp only [List.map_toArray, List.map_cons, List.map_nil]); first | done | rfl | (simp only [List.length_drop, List.length_take]; rfl)) ?_; (with_reducible refine (spec_l07Label.calls k2 (rdOf ByteArray.empty l1 x5_2) true _ A22.out).mono ?_); rintro e w24 ⟨rfl, hb⟩; refine ⟨_, rfl, ?_⟩; have n0_ := Aside0.mk (blk_below (g := gb238) (o := .cells #[.int .i64 a0_0, .slice A0_1 l0_1.length c0_1] 37 (0, 0)) (by (with_reducible repeat (first | refine blk_drewN ?_ _ | refine blk_drew ?_ | refine blk_alloc ?_ _)); exact BK238.out) hb); have n1_ := Aside0.mk (below_step (by repeat (first | (with_reducible first | exact HB.out | apply below_alloc | apply pw_below_drewN | apply below_drew1 | refine below_set ?_ GE238.out) | exact HB.out)) hb); clear BK238; clear HB; have BK238 := n0_; have HB := n1_; clear n0_ n1_; (try clear hb); (try clear hb2); (try clear hk); (try clear hi)))
          go_roundg k2
          case measure => have := HJ7.out; have := HK2.out; omega
          case rel => exact ⟨(wrap64 (x5_2 + 1)), (by first | rfl | (simp; done) | (simp [*]; done)), H', ⟨by have := HJ7.out; have := HK2.out; omega⟩, ⟨by (with_reducible repeat (first | refine blk_drewN ?_ _ | refine blk_drew ?_ | refine blk_alloc ?_ _)); exact BK238.out⟩, ⟨by repeat (first | (with_reducible first | exact HB.out | apply below_alloc | apply pw_below_drewN | apply below_drew1 | refine below_set ?_ GE238.out) | exact HB.out)⟩⟩
         ·
          replace c23 := Bool.eq_false_iff.mpr c23; subst c23; have H1 : (some (⟨#[]⟩ : ByteArray)) = some r := by rw [if_neg (show ¬ (false = true) by decide)] at H; exact H
          clear H; have H := H1; clear H1; obtain rfl := Option.some.inj H; have p241 : 0 ≤ (x5_2 : Int) := of_decide_eq_true (by first | (with_reducible assumption) | assumption); have q241 : x5_2 < (l1.length : Int) := of_decide_eq_true (by first | (with_reducible assumption) | assumption); obtain ⟨ad241, e241, hx241_0⟩ := Kd.at_string HR1.out x5_2 p241 q241; cases e241; replace hx241_0 := (HB.out.cell (World.block_lt_of_cell? w _ hx241_0)).trans hx241_0; replace p241 := eq_true p241; replace q241 := eq_true q241
          go_wp2_with (first | ((with_reducible refine gate_callee (f := 48) rfl ?_); refine goesL_ (some 34) rfl rfl Tryd.func48 (by kernel_rfl) rfl #[.string (rdOf ByteArray.empty l1 x5_2)] rfl (by (try simp only [List.map_toArray, List.map_cons, List.map_nil]); first | done | rfl | (simp only [List.length_drop, List.length_take]; rfl)) ?_; (with_reducible refine (spec_l07Label.calls k2 (rdOf ByteArray.empty l1 x5_2) false _ A22.out).mono ?_); rintro e w25 ⟨rfl, hb⟩; refine ⟨_, rfl, ?_⟩; have n0_ := Aside0.mk (below_step (by repeat (first | (with_reducible first | exact HB.out | apply below_alloc | apply pw_below_drewN | apply below_drew1) | exact HB.out)) hb); clear HB; have HB := n0_; clear n0_; (try clear hb); (try clear hb2); (try clear hk); (try clear hi)))
          go_ret
          exact ⟨by first | rfl | (simp [errW_none, errW_some] <;> rfl) | (simp [*, errW_none, errW_some] <;> rfl), by repeat (first | (with_reducible first | exact HB.out | apply below_alloc | apply pw_below_drewN | apply below_drew1) | exact HB.out)⟩
        ·
         rw [if_neg c21] at H; exact absurd H (by simp)
       ·
        rw [if_neg c20] at H; have c20b0 : decide (x5_2 < (l1.length : Int)) = false := decide_eq_false c20; clear c20; have H' := Aside0.mk H; clear H
        go_wp2
        go_loopg [6, 7] k2 (fun kq v6 v7 w' => ∃ (x6_3 : ByteArray) (x7_3 : Int), v6 = .string x6_3 ∧ v7 = .int .i64 x7_3 ∧ Aside0 (spec_FactsText.l1 kq l1 x6_3 x7_3 a0_0 l0_1 = some r) ∧ Aside0 (kq ≤ k2) ∧ Aside0 (w'.heap[gb238]? = some (.cells #[.int .i64 a0_0, (.slice A0_1 l0_1.length c0_1)] 37 (0, 0))) ∧ Aside0 (Below w.heap.size w w'))
        case atStart => exact ⟨((⟨#[]⟩ : ByteArray)), (0), (by first | rfl | (simp; done) | (simp [*]; done)), (by first | rfl | (simp; done) | (simp [*]; done)), H', ⟨Nat.le_refl _⟩, ⟨by (with_reducible repeat (first | refine blk_drewN ?_ _ | refine blk_drew ?_ | refine blk_alloc ?_ _)); exact BK238.out⟩, ⟨by repeat (first | (with_reducible first | exact HB.out | apply below_alloc | apply pw_below_drewN | apply below_drew1 | refine below_set ?_ GE238.out) | exact HB.out)⟩⟩
        case round =>
         clear H'
         try clear c1
         try clear c2
         try clear p2
         try clear q2
         try clear hx2
         try clear c4
         try clear p6
         try clear c13
         try clear c16
         try clear c19
         try clear c20
         try clear c20b0
         try clear c21
         try clear c21b0
         try clear c23
         try clear p24
         try clear q24
         try clear hx24
         try clear hcz10_0
         try clear hcz10_1
         try clear hcz14_0
         try clear hcz14_1
         try clear hcz16_0
         try clear hcz16_1
         try clear hcz17_0
         try clear hcz17_1
         try clear hcz6_0
         try clear hcz6_1
         try clear hfz10_0
         try clear hfz10_1
         try clear hfz14_0
         try clear hfz14_1
         try clear hfz16_0
         try clear hfz16_1
         try clear hfz17_0
         try clear hfz17_1
         try clear hfz6_0
         try clear hfz6_1
         try clear hx241_0
         try clear p2
         try clear p241
         try clear p6
         try clear q241
         obtain ⟨x6_3, x7_3, rfl, rfl, HA, HK3, BK238, HB⟩ := hrel; cases gk with
         | zero => exact absurd HA.out (by simp [spec_FactsText.l1])
         | succ k3 =>
          have H := HA.out; clear HA; simp only [spec_FactsText.l1] at H
          by_cases c26 : x7_3 < a0_0
          ·
           rw [if_pos c26] at H; have c26b0 : decide (x7_3 < a0_0) = true := decide_eq_true c26; clear c26; have H' := Aside0.mk H; clear H; have hcz27_0 : wr.cell? ⟨gb238, 0, none⟩ = some (.int .i64 a0_0) := (blk_cell BK238.out 0).trans rfl; have hcz27_1 : wr.cell? ⟨gb238, 1, none⟩ = some (.slice A0_1 l0_1.length c0_1) := (blk_cell BK238.out 1).trans rfl; have hfz27_0 := blk_frozen BK238.out 0; have hfz27_1 := blk_frozen BK238.out 1
           go_wp2
           go_loopg [6, 8] k3 (fun kq v6 v8 w' => ∃ (x6_4 : ByteArray) (x8_4 : Int), v6 = .string x6_4 ∧ v8 = .int .i64 x8_4 ∧ Aside0 (spec_FactsText.l2 kq l1 x6_4 x7_3 x8_4 a0_0 l0_1 = some r) ∧ Aside0 (kq ≤ k3) ∧ Aside0 (w'.heap[gb238]? = some (.cells #[.int .i64 a0_0, (.slice A0_1 l0_1.length c0_1)] 37 (0, 0))) ∧ Aside0 (Below w.heap.size w w'))
           case atStart => exact ⟨(x6_3), (0), (by first | rfl | (simp; done) | (simp [*]; done)), (by first | rfl | (simp; done) | (simp [*]; done)), H', ⟨Nat.le_refl _⟩, ⟨by (with_reducible repeat (first | refine blk_drewN ?_ _ | refine blk_drew ?_ | refine blk_alloc ?_ _)); exact BK238.out⟩, ⟨by repeat (first | (with_reducible first | exact HB.out | apply below_alloc | apply pw_below_drewN | apply below_drew1 | refine below_set ?_ GE238.out) | exact HB.out)⟩⟩
           case round =>
            clear H'
            try clear c1
            try clear c2
            try clear p2
            try clear q2
            try clear hx2
            try clear c4
            try clear p6
            try clear c13
            try clear c16
            try clear c19
            try clear c20
            try clear c20b0
            try clear c21
            try clear c21b0
            try clear c23
            try clear p24
            try clear q24
            try clear hx24
            try clear c26
            try clear c26b0
            try clear hcz10_0
            try clear hcz10_1
            try clear hcz14_0
            try clear hcz14_1
            try clear hcz16_0
            try clear hcz16_1
            try clear hcz17_0
            try clear hcz17_1
            try clear hcz27_0
            try clear hcz27_1
            try clear hcz6_0
            try clear hcz6_1
            try clear hfz10_0
            try clear hfz10_1
            try clear hfz14_0
            try clear hfz14_1
            try clear hfz16_0
            try clear hfz16_1
            try clear hfz17_0
            try clear hfz17_1
            try clear hfz27_0
            try clear hfz27_1
            try clear hfz6_0
            try clear hfz6_1
            try clear hx241_0
            try clear p2
            try clear p24
            try clear p241
            try clear p6
            try clear q2
            try clear q24
            try clear q241
            obtain ⟨x6_4, x8_4, rfl, rfl, HA, HK4, BK238, HB⟩ := hrel; cases gk with
            | zero => exact absurd HA.out (by simp [spec_FactsText.l2])
            | succ k4 =>
             have H := HA.out; clear HA; simp only [spec_FactsText.l2] at H
             by_cases c28 : x8_4 < a0_0
             ·
              rw [if_pos c28] at H; have c28b0 : decide (x8_4 < a0_0) = true := decide_eq_true c28; clear c28; obtain ⟨ji29, hji29⟩ : ∃ j_ : Int, (wrap64 ((wrap64 (x7_3 * a0_0)) + x8_4)) = j_ := ⟨_, rfl⟩; replace H : (if 0 ≤ (ji29) then (if (ji29) < (l0_1.length : Int) then ((spec_l07Cap.f x7_3 x8_4).bind fun t244 => (if (rd l0_1 (ji29)) = t244 then (spec_FactsText.l2 k4 l1 x6_4 x7_3 (wrap64 (x8_4 + 1)) a0_0 l0_1) else (if x8_4 = 0 then (if 0 ≤ (wrap64 (x7_3 - 1)) then (if (wrap64 (x7_3 - 1)) < (l1.length : Int) then (if (rdOf ByteArray.empty l1 (wrap64 (x7_3 - 1))).size + 4 ≤ 9223372036854775807 then ((spec_l01Digits.f k4 (rd l0_1 (ji29))).bind fun t246 => (if (rdOf ByteArray.empty l1 (wrap64 (x7_3 - 1))).size + 4 + t246.size ≤ 9223372036854775807 then (if x6_4.toList = ([] : List UInt8) then (if x6_4.size + (rdOf ByteArray.empty l1 (wrap64 (x7_3 - 1))).size + 4 + t246.size ≤ 9223372036854775807 then (spec_FactsText.l2 k4 l1 (x6_4 ++ (((rdOf ByteArray.empty l1 (wrap64 (x7_3 - 1))) ++ (⟨#[32, 60, 61, 32]⟩ : ByteArray)) ++ t246)) x7_3 (wrap64 (x8_4 + 1)) a0_0 l0_1) else (none)) else (if x6_4.size + 2 ≤ 9223372036854775807 then (if x6_4.size + 2 + (rdOf ByteArray.empty l1 (wrap64 (x7_3 - 1))).size + 4 + t246.size ≤ 9223372036854775807 then (spec_FactsText.l2 k4 l1 ((x6_4 ++ (⟨#[44, 32]⟩ : ByteArray)) ++ (((rdOf ByteArray.empty l1 (wrap64 (x7_3 - 1))) ++ (⟨#[32, 60, 61, 32]⟩ : ByteArray)) ++ t246)) x7_3 (wrap64 (x8_4 + 1)) a0_0 l0_1) else (none)) else (none))) else (none))) else (none)) else (none)) else (none)) else (if x7_3 = 0 then (if 0 ≤ (wrap64 (x8_4 - 1)) then (if (wrap64 (x8_4 - 1)) < (l1.length : Int) then (if (rdOf ByteArray.empty l1 (wrap64 (x8_4 - 1))).size + 4 ≤ 9223372036854775807 then ((spec_l01Digits.f k4 (wrap64 (-(rd l0_1 (ji29))))).bind fun t248 => (if (rdOf ByteArray.empty l1 (wrap64 (x8_4 - 1))).size + 4 + t248.size ≤ 9223372036854775807 then (if x6_4.toList = ([] : List UInt8) then (if x6_4.size + (rdOf ByteArray.empty l1 (wrap64 (x8_4 - 1))).size + 4 + t248.size ≤ 9223372036854775807 then (spec_FactsText.l2 k4 l1 (x6_4 ++ (((rdOf ByteArray.empty l1 (wrap64 (x8_4 - 1))) ++ (⟨#[32, 62, 61, 32]⟩ : ByteArray)) ++ t248)) x7_3 (wrap64 (x8_4 + 1)) a0_0 l0_1) else (none)) else (if x6_4.size + 2 ≤ 9223372036854775807 then (if x6_4.size + 2 + (rdOf ByteArray.empty l1 (wrap64 (x8_4 - 1))).size + 4 + t248.size ≤ 9223372036854775807 then (spec_FactsText.l2 k4 l1 ((x6_4 ++ (⟨#[44, 32]⟩ : ByteArray)) ++ (((rdOf ByteArray.empty l1 (wrap64 (x8_4 - 1))) ++ (⟨#[32, 62, 61, 32]⟩ : ByteArray)) ++ t248)) x7_3 (wrap64 (x8_4 + 1)) a0_0 l0_1) else (none)) else (none))) else (none))) else (none)) else (none)) else (none)) else (if 0 ≤ (wrap64 (x7_3 - 1)) then (if (wrap64 (x7_3 - 1)) < (l1.length : Int) then (if (rdOf ByteArray.empty l1 (wrap64 (x7_3 - 1))).size + 3 ≤ 9223372036854775807 then (if 0 ≤ (wrap64 (x8_4 - 1)) then (if (wrap64 (x8_4 - 1)) < (l1.length : Int) then (if (rdOf ByteArray.empty l1 (wrap64 (x7_3 - 1))).size + 3 + (rdOf ByteArray.empty l1 (wrap64 (x8_4 - 1))).size ≤ 9223372036854775807 then (if (rdOf ByteArray.empty l1 (wrap64 (x7_3 - 1))).size + 3 + (rdOf ByteArray.empty l1 (wrap64 (x8_4 - 1))).size + 4 ≤ 9223372036854775807 then ((spec_l01Digits.f k4 (rd l0_1 (ji29))).bind fun t251 => (if (rdOf ByteArray.empty l1 (wrap64 (x7_3 - 1))).size + 3 + (rdOf ByteArray.empty l1 (wrap64 (x8_4 - 1))).size + 4 + t251.size ≤ 9223372036854775807 then (if x6_4.toList = ([] : List UInt8) then (if x6_4.size + (rdOf ByteArray.empty l1 (wrap64 (x7_3 - 1))).size + 3 + (rdOf ByteArray.empty l1 (wrap64 (x8_4 - 1))).size + 4 + t251.size ≤ 9223372036854775807 then (spec_FactsText.l2 k4 l1 (x6_4 ++ (((((rdOf ByteArray.empty l1 (wrap64 (x7_3 - 1))) ++ (⟨#[32, 45, 32]⟩ : ByteArray)) ++ (rdOf ByteArray.empty l1 (wrap64 (x8_4 - 1)))) ++ (⟨#[32, 60, 61, 32]⟩ : ByteArray)) ++ t251)) x7_3 (wrap64 (x8_4 + 1)) a0_0 l0_1) else (none)) else (if x6_4.size + 2 ≤ 9223372036854775807 then (if x6_4.size + 2 + (rdOf ByteArray.empty l1 (wrap64 (x7_3 - 1))).size + 3 + (rdOf ByteArray.empty l1 (wrap64 (x8_4 - 1))).size + 4 + t251.size ≤ 9223372036854775807 then (spec_FactsText.l2 k4 l1 ((x6_4 ++ (⟨#[44, 32]⟩ : ByteArray)) ++ (((((rdOf ByteArray.empty l1 (wrap64 (x7_3 - 1))) ++ (⟨#[32, 45, 32]⟩ : ByteArray)) ++ (rdOf ByteArray.empty l1 (wrap64 (x8_4 - 1)))) ++ (⟨#[32, 60, 61, 32]⟩ : ByteArray)) ++ t251)) x7_3 (wrap64 (x8_4 + 1)) a0_0 l0_1) else (none)) else (none))) else (none))) else (none)) else (none)) else (none)) else (none)) else (none)) else (none)) else (none)))))) else (none)) else (none)) = some r := by first | (rw [hji29] at H; exact H) | (simp only [hji29] at H ⊢; exact H)
              have hji29w : (IntKind.i64.wrap ((wrap64 (x7_3 * a0_0)) + x8_4)) = ji29 := (i64_w _).trans hji29
              by_cases c30 : 0 ≤ (ji29)
              ·
               rw [if_pos c30] at H; have c30b0 : decide (0 ≤ (ji29)) = true := decide_eq_true c30; clear c30
               by_cases c31 : (ji29) < (l0_1.length : Int)
               ·
                rw [if_pos c31] at H; have c31b0 : decide ((ji29) < (l0_1.length : Int)) = true := decide_eq_true c31; clear c31; replace H := Option.bind_eq_some_iff.mp H; obtain ⟨t244, A320, H⟩ := H; replace H : (if (rd l0_1 (ji29)) = t244 then (spec_FactsText.l2 k4 l1 x6_4 x7_3 (wrap64 (x8_4 + 1)) a0_0 l0_1) else (if x8_4 = 0 then (if 0 ≤ (wrap64 (x7_3 - 1)) then (if (wrap64 (x7_3 - 1)) < (l1.length : Int) then (if (rdOf ByteArray.empty l1 (wrap64 (x7_3 - 1))).size + 4 ≤ 9223372036854775807 then ((spec_l01Digits.f k4 (rd l0_1 (ji29))).bind fun t246 => (if (rdOf ByteArray.empty l1 (wrap64 (x7_3 - 1))).size + 4 + t246.size ≤ 9223372036854775807 then (if x6_4.toList = ([] : List UInt8) then (if x6_4.size + (rdOf ByteArray.empty l1 (wrap64 (x7_3 - 1))).size + 4 + t246.size ≤ 9223372036854775807 then (spec_FactsText.l2 k4 l1 (x6_4 ++ (((rdOf ByteArray.empty l1 (wrap64 (x7_3 - 1))) ++ (⟨#[32, 60, 61, 32]⟩ : ByteArray)) ++ t246)) x7_3 (wrap64 (x8_4 + 1)) a0_0 l0_1) else (none)) else (if x6_4.size + 2 ≤ 9223372036854775807 then (if x6_4.size + 2 + (rdOf ByteArray.empty l1 (wrap64 (x7_3 - 1))).size + 4 + t246.size ≤ 9223372036854775807 then (spec_FactsText.l2 k4 l1 ((x6_4 ++ (⟨#[44, 32]⟩ : ByteArray)) ++ (((rdOf ByteArray.empty l1 (wrap64 (x7_3 - 1))) ++ (⟨#[32, 60, 61, 32]⟩ : ByteArray)) ++ t246)) x7_3 (wrap64 (x8_4 + 1)) a0_0 l0_1) else (none)) else (none))) else (none))) else (none)) else (none)) else (none)) else (if x7_3 = 0 then (if 0 ≤ (wrap64 (x8_4 - 1)) then (if (wrap64 (x8_4 - 1)) < (l1.length : Int) then (if (rdOf ByteArray.empty l1 (wrap64 (x8_4 - 1))).size + 4 ≤ 9223372036854775807 then ((spec_l01Digits.f k4 (wrap64 (-(rd l0_1 (ji29))))).bind fun t248 => (if (rdOf ByteArray.empty l1 (wrap64 (x8_4 - 1))).size + 4 + t248.size ≤ 9223372036854775807 then (if x6_4.toList = ([] : List UInt8) then (if x6_4.size + (rdOf ByteArray.empty l1 (wrap64 (x8_4 - 1))).size + 4 + t248.size ≤ 9223372036854775807 then (spec_FactsText.l2 k4 l1 (x6_4 ++ (((rdOf ByteArray.empty l1 (wrap64 (x8_4 - 1))) ++ (⟨#[32, 62, 61, 32]⟩ : ByteArray)) ++ t248)) x7_3 (wrap64 (x8_4 + 1)) a0_0 l0_1) else (none)) else (if x6_4.size + 2 ≤ 9223372036854775807 then (if x6_4.size + 2 + (rdOf ByteArray.empty l1 (wrap64 (x8_4 - 1))).size + 4 + t248.size ≤ 9223372036854775807 then (spec_FactsText.l2 k4 l1 ((x6_4 ++ (⟨#[44, 32]⟩ : ByteArray)) ++ (((rdOf ByteArray.empty l1 (wrap64 (x8_4 - 1))) ++ (⟨#[32, 62, 61, 32]⟩ : ByteArray)) ++ t248)) x7_3 (wrap64 (x8_4 + 1)) a0_0 l0_1) else (none)) else (none))) else (none))) else (none)) else (none)) else (none)) else (if 0 ≤ (wrap64 (x7_3 - 1)) then (if (wrap64 (x7_3 - 1)) < (l1.length : Int) then (if (rdOf ByteArray.empty l1 (wrap64 (x7_3 - 1))).size + 3 ≤ 9223372036854775807 then (if 0 ≤ (wrap64 (x8_4 - 1)) then (if (wrap64 (x8_4 - 1)) < (l1.length : Int) then (if (rdOf ByteArray.empty l1 (wrap64 (x7_3 - 1))).size + 3 + (rdOf ByteArray.empty l1 (wrap64 (x8_4 - 1))).size ≤ 9223372036854775807 then (if (rdOf ByteArray.empty l1 (wrap64 (x7_3 - 1))).size + 3 + (rdOf ByteArray.empty l1 (wrap64 (x8_4 - 1))).size + 4 ≤ 9223372036854775807 then ((spec_l01Digits.f k4 (rd l0_1 (ji29))).bind fun t251 => (if (rdOf ByteArray.empty l1 (wrap64 (x7_3 - 1))).size + 3 + (rdOf ByteArray.empty l1 (wrap64 (x8_4 - 1))).size + 4 + t251.size ≤ 9223372036854775807 then (if x6_4.toList = ([] : List UInt8) then (if x6_4.size + (rdOf ByteArray.empty l1 (wrap64 (x7_3 - 1))).size + 3 + (rdOf ByteArray.empty l1 (wrap64 (x8_4 - 1))).size + 4 + t251.size ≤ 9223372036854775807 then (spec_FactsText.l2 k4 l1 (x6_4 ++ (((((rdOf ByteArray.empty l1 (wrap64 (x7_3 - 1))) ++ (⟨#[32, 45, 32]⟩ : ByteArray)) ++ (rdOf ByteArray.empty l1 (wrap64 (x8_4 - 1)))) ++ (⟨#[32, 60, 61, 32]⟩ : ByteArray)) ++ t251)) x7_3 (wrap64 (x8_4 + 1)) a0_0 l0_1) else (none)) else (if x6_4.size + 2 ≤ 9223372036854775807 then (if x6_4.size + 2 + (rdOf ByteArray.empty l1 (wrap64 (x7_3 - 1))).size + 3 + (rdOf ByteArray.empty l1 (wrap64 (x8_4 - 1))).size + 4 + t251.size ≤ 9223372036854775807 then (spec_FactsText.l2 k4 l1 ((x6_4 ++ (⟨#[44, 32]⟩ : ByteArray)) ++ (((((rdOf ByteArray.empty l1 (wrap64 (x7_3 - 1))) ++ (⟨#[32, 45, 32]⟩ : ByteArray)) ++ (rdOf ByteArray.empty l1 (wrap64 (x8_4 - 1)))) ++ (⟨#[32, 60, 61, 32]⟩ : ByteArray)) ++ t251)) x7_3 (wrap64 (x8_4 + 1)) a0_0 l0_1) else (none)) else (none))) else (none))) else (none)) else (none)) else (none)) else (none)) else (none)) else (none)) else (none))))) = some r := H; have A32 := Aside0.mk A320; clear A320
                by_cases c33 : (rd l0_1 (ji29)) = t244
                ·
                 rw [if_pos c33] at H; have c33b0 : ((rd l0_1 (ji29)) == t244) = true := beq_iff_eq.mpr c33; have c33b1 : ((rd l0_1 (ji29)) != t244) = false := bne_eq_false_iff_eq.mpr c33; clear c33; have H' := Aside0.mk H; clear H; have hcz34_0 : wr.cell? ⟨gb238, 0, none⟩ = some (.int .i64 a0_0) := (blk_cell BK238.out 0).trans rfl; have hcz34_1 : wr.cell? ⟨gb238, 1, none⟩ = some (.slice A0_1 l0_1.length c0_1) := (blk_cell BK238.out 1).trans rfl; have hfz34_0 := blk_frozen BK238.out 0; have hfz34_1 := blk_frozen BK238.out 1; have p243 : 0 ≤ ((ji29) : Int) := of_decide_eq_true (by first | (with_reducible assumption) | assumption); have q243 : (ji29) < (l0_1.length : Int) := of_decide_eq_true (by first | (with_reducible assumption) | assumption); obtain ⟨ad243, e243, hx243_0⟩ := Kd.at_int HR0_1.out (ji29) p243 q243; cases e243; replace hx243_0 := (HB.out.cell (World.block_lt_of_cell? w _ hx243_0)).trans hx243_0; replace p243 := eq_true p243; replace q243 := eq_true q243
                 go_wp2_with (first | ((with_reducible refine gate_callee (f := 49) rfl ?_); refine goesL_ (some 61) rfl rfl Tryd.func49 (by kernel_rfl) rfl #[.int .i64 x7_3, .int .i64 x8_4] rfl (by (try simp only [List.map_toArray, List.map_cons, List.map_nil]); first | done | rfl | (simp only [List.length_drop, List.length_take]; rfl)) ?_; (with_reducible refine (spec_l07Cap.calls x7_3 x8_4 t244 _ A32.out).mono ?_); rintro e w' ⟨rfl, ⟨nd, rfl⟩⟩; refine ⟨_, rfl, ?_⟩))
                 go_roundg k4
                 case measure => have := HJ7.out; have := HK2.out; have := HK3.out; have := HK4.out; omega
                 case rel => exact ⟨(x6_4), (wrap64 (x8_4 + 1)), (by first | rfl | (simp; done) | (simp [*]; done)), (by first | rfl | (simp; done) | (simp [*]; done)), H', ⟨by have := HJ7.out; have := HK2.out; have := HK3.out; have := HK4.out; omega⟩, ⟨by (with_reducible repeat (first | refine blk_drewN ?_ _ | refine blk_drew ?_ | refine blk_alloc ?_ _)); exact BK238.out⟩, ⟨by repeat (first | (with_reducible first | exact HB.out | apply below_alloc | apply pw_below_drewN | apply below_drew1 | refine below_set ?_ GE238.out) | exact HB.out)⟩⟩
                ·
                 rw [if_neg c33] at H; have c33b0 : ((rd l0_1 (ji29)) == t244) = false := beq_eq_false_iff_ne.mpr c33; have c33b1 : ((rd l0_1 (ji29)) != t244) = true := bne_iff_ne.mpr c33
                 by_cases c35 : x8_4 = 0
                 ·
                  rw [if_pos c35] at H; have c35b0 : (x8_4 == 0) = true := beq_iff_eq.mpr c35; have c35b1 : (x8_4 != 0) = false := bne_eq_false_iff_eq.mpr c35; clear c35; obtain ⟨ji36, hji36⟩ : ∃ j_ : Int, (wrap64 (x7_3 - 1)) = j_ := ⟨_, rfl⟩; replace H : (if 0 ≤ (ji36) then (if (ji36) < (l1.length : Int) then (if (rdOf ByteArray.empty l1 (ji36)).size + 4 ≤ 9223372036854775807 then ((spec_l01Digits.f k4 (rd l0_1 (ji29))).bind fun t246 => (if (rdOf ByteArray.empty l1 (ji36)).size + 4 + t246.size ≤ 9223372036854775807 then (if x6_4.toList = ([] : List UInt8) then (if x6_4.size + (rdOf ByteArray.empty l1 (ji36)).size + 4 + t246.size ≤ 9223372036854775807 then (spec_FactsText.l2 k4 l1 (x6_4 ++ (((rdOf ByteArray.empty l1 (ji36)) ++ (⟨#[32, 60, 61, 32]⟩ : ByteArray)) ++ t246)) x7_3 (wrap64 (x8_4 + 1)) a0_0 l0_1) else (none)) else (if x6_4.size + 2 ≤ 9223372036854775807 then (if x6_4.size + 2 + (rdOf ByteArray.empty l1 (ji36)).size + 4 + t246.size ≤ 9223372036854775807 then (spec_FactsText.l2 k4 l1 ((x6_4 ++ (⟨#[44, 32]⟩ : ByteArray)) ++ (((rdOf ByteArray.empty l1 (ji36)) ++ (⟨#[32, 60, 61, 32]⟩ : ByteArray)) ++ t246)) x7_3 (wrap64 (x8_4 + 1)) a0_0 l0_1) else (none)) else (none))) else (none))) else (none)) else (none)) else (none)) = some r := by first | (rw [hji36] at H; exact H) | (simp only [hji36] at H ⊢; exact H)
                  (try rw [hji36] at A32)
                  have hji36w : (IntKind.i64.wrap (x7_3 - 1)) = ji36 := (i64_w _).trans hji36
                  by_cases c37 : 0 ≤ (ji36)
                  ·
                   rw [if_pos c37] at H; have c37b0 : decide (0 ≤ (ji36)) = true := decide_eq_true c37; clear c37
                   by_cases c38 : (ji36) < (l1.length : Int)
                   ·
                    rw [if_pos c38] at H; have c38b0 : decide ((ji36) < (l1.length : Int)) = true := decide_eq_true c38; clear c38
                    by_cases c39 : (rdOf ByteArray.empty l1 (ji36)).size + 4 ≤ 9223372036854775807
                    ·
                     rw [if_pos c39] at H; have c39b0 := eq_true c39; have c39b1 : decide ((rdOf ByteArray.empty l1 (ji36)).size + 4 ≤ 9223372036854775807) = true := decide_eq_true c39
                     try have c39b2 : (9223372036854775807 < (rdOf ByteArray.empty l1 (ji36)).size + 4) = False := eq_false (Nat.not_lt.2 c39)
                     replace H := Option.bind_eq_some_iff.mp H; obtain ⟨t246, A400, H⟩ := H; replace H : (if (rdOf ByteArray.empty l1 (ji36)).size + 4 + t246.size ≤ 9223372036854775807 then (if x6_4.toList = ([] : List UInt8) then (if x6_4.size + (rdOf ByteArray.empty l1 (ji36)).size + 4 + t246.size ≤ 9223372036854775807 then (spec_FactsText.l2 k4 l1 (x6_4 ++ (((rdOf ByteArray.empty l1 (ji36)) ++ (⟨#[32, 60, 61, 32]⟩ : ByteArray)) ++ t246)) x7_3 (wrap64 (x8_4 + 1)) a0_0 l0_1) else (none)) else (if x6_4.size + 2 ≤ 9223372036854775807 then (if x6_4.size + 2 + (rdOf ByteArray.empty l1 (ji36)).size + 4 + t246.size ≤ 9223372036854775807 then (spec_FactsText.l2 k4 l1 ((x6_4 ++ (⟨#[44, 32]⟩ : ByteArray)) ++ (((rdOf ByteArray.empty l1 (ji36)) ++ (⟨#[32, 60, 61, 32]⟩ : ByteArray)) ++ t246)) x7_3 (wrap64 (x8_4 + 1)) a0_0 l0_1) else (none)) else (none))) else (none)) = some r := H; have A40 := Aside0.mk A400; clear A400
                     by_cases c41 : (rdOf ByteArray.empty l1 (ji36)).size + 4 + t246.size ≤ 9223372036854775807
                     ·
                      rw [if_pos c41] at H; have c41b0 := eq_true c41; have c41b1 : decide ((rdOf ByteArray.empty l1 (ji36)).size + 4 + t246.size ≤ 9223372036854775807) = true := decide_eq_true c41
                      try have c41b2 : (9223372036854775807 < (rdOf ByteArray.empty l1 (ji36)).size + 4 + t246.size) = False := eq_false (Nat.not_lt.2 c41)
                      by_cases c42 : x6_4.toList = ([] : List UInt8)
                      ·
                       rw [if_pos c42] at H; have c42b0 : (x6_4.toList == ([] : List UInt8)) = true := beq_iff_eq.mpr c42; have c42b1 : (x6_4.toList != ([] : List UInt8)) = false := bne_eq_false_iff_eq.mpr c42
                       (try (have c42b2 : x6_4.toList.isEmpty = true := by rw [c42]; rfl))
                       clear c42
                       by_cases c43 : x6_4.size + (rdOf ByteArray.empty l1 (ji36)).size + 4 + t246.size ≤ 9223372036854775807
                       ·
                        rw [if_pos c43] at H; have c43b0 := eq_true c43; have c43b1 : decide (x6_4.size + (rdOf ByteArray.empty l1 (ji36)).size + 4 + t246.size ≤ 9223372036854775807) = true := decide_eq_true c43
                        try have c43b2 : (9223372036854775807 < x6_4.size + (rdOf ByteArray.empty l1 (ji36)).size + 4 + t246.size) = False := eq_false (Nat.not_lt.2 c43)
                        have H' := Aside0.mk H; clear H; have hcz44_0 : wr.cell? ⟨gb238, 0, none⟩ = some (.int .i64 a0_0) := (blk_cell BK238.out 0).trans rfl; have hcz44_1 : wr.cell? ⟨gb238, 1, none⟩ = some (.slice A0_1 l0_1.length c0_1) := (blk_cell BK238.out 1).trans rfl; have hfz44_0 := blk_frozen BK238.out 0; have hfz44_1 := blk_frozen BK238.out 1; have p243 : 0 ≤ ((ji29) : Int) := of_decide_eq_true (by first | (with_reducible assumption) | assumption); have q243 : (ji29) < (l0_1.length : Int) := of_decide_eq_true (by first | (with_reducible assumption) | assumption); obtain ⟨ad243, e243, hx243_0⟩ := Kd.at_int HR0_1.out (ji29) p243 q243; cases e243; replace hx243_0 := (HB.out.cell (World.block_lt_of_cell? w _ hx243_0)).trans hx243_0; replace p243 := eq_true p243; replace q243 := eq_true q243
                        try go_wp2_with (first | ((with_reducible refine gate_callee (f := 49) rfl ?_); refine goesL_ (some 61) rfl rfl Tryd.func49 (by kernel_rfl) rfl #[.int .i64 x7_3, .int .i64 x8_4] rfl (by (try simp only [List.map_toArray, List.map_cons, List.map_nil]); first | done | rfl | (simp only [List.length_drop, List.length_take]; rfl)) ?_; (with_reducible refine (spec_l07Cap.calls x7_3 x8_4 t244 _ A32.out).mono ?_); rintro e w' ⟨rfl, ⟨nd, rfl⟩⟩; refine ⟨_, rfl, ?_⟩))
                        (try (rw [drewN_self wr]; generalize hq_ : World.drewN wr _ = wr; have n0_ : Aside0 (wr.heap[gb238]? = some (.cells #[.int .i64 a0_0, .slice (some ad243) l0_1.length c0_1] 37 (0, 0))) := ⟨by rw [← hq_]; exact (by (with_reducible repeat (first | refine blk_drewN ?_ _ | refine blk_drew ?_ | refine blk_alloc ?_ _)); exact BK238.out)⟩; have n1_ : Aside0 (Below w.heap.size w wr) := ⟨by rw [← hq_]; exact (by repeat (first | (with_reducible first | exact HB.out | apply below_alloc | apply pw_below_drewN | apply below_drew1 | refine below_set ?_ GE238.out) | exact HB.out))⟩; clear BK238 HB hq_; have BK238 := n0_; have HB := n1_; clear n0_ n1_))
                        have n0_ := Aside0.mk (blk_drew BK238.out); have n1_ := Aside0.mk (below_drew1 HB.out); clear BK238 HB; have BK238 := n0_; have HB := n1_; clear n0_ n1_; have p245 : 0 ≤ ((ji36) : Int) := of_decide_eq_true (by first | (with_reducible assumption) | assumption); have q245 : (ji36) < (l1.length : Int) := of_decide_eq_true (by first | (with_reducible assumption) | assumption); obtain ⟨ad245, e245, hx245_0⟩ := Kd.at_string HR1.out (ji36) p245 q245; have hw245_0 := hx245_0; cases e245; replace hx245_0 := (HB.out.cell (World.block_lt_of_cell? w _ hx245_0)).trans hx245_0; replace p245 := eq_true p245; replace q245 := eq_true q245; refine start_ (n := 10) (S := fun w' => w'.cell? (ad245.add ((ji36)).toNat) = some (.string (rdOf ByteArray.empty l1 (ji36)))) (ds := []) #[false, false, false, false, false, false, false, false, false, false] (by kernel_rfl) rfl rfl (((HB.out.cell (World.block_lt_of_cell? w _ hw245_0)).trans hw245_0)) (fun hHeld => ?_); refine with_tabW spec_FactsText.tab22 spec_FactsText.bits22 (fun HT_ HW_ => ?_); generalize wr.drew = w45 at BK238 HB hx245_0 hHeld ⊢; refine pure_ (i := 0) (N := some 82) (v := ?_) (a' := ?_) #[true, false, false, false, false, false, false, false, false, false] rfl rfl (any_of HT_.out (by kernel_rfl)) (fun _ _ _ h => h) (Or.inl ⟨by rfl, ?_⟩) ?_ ?_; rotate_left
                        ·
                         intro w'; go_simp; with_reducible rfl
                        rotate_left
                        ·
                         simp only [Act.put, List.setIfInBounds_toArray, List.set_cons_zero, List.set_cons_succ, i64_w, i32_w]; rfl
                        refine pure_ (i := 1) (N := some 83) (v := ?_) (a' := ?_) #[true, true, false, false, false, false, false, false, false, false] rfl rfl (any_of HT_.out (by kernel_rfl)) (fun _ _ _ h => h) (Or.inl ⟨by rfl, ?_⟩) ?_ ?_; rotate_left
                        ·
                         intro w'; go_simp; with_reducible rfl
                        rotate_left
                        ·
                         simp only [Act.put, List.setIfInBounds_toArray, List.set_cons_zero, List.set_cons_succ, i64_w, i32_w]; rfl
                        refine pure_ (i := 2) (N := some 84) (v := ?_) (a' := ?_) #[true, true, true, false, false, false, false, false, false, false] rfl rfl (any_of HT_.out (by kernel_rfl)) (fun _ _ _ h => h) (Or.inl ⟨by rfl, ?_⟩) ?_ ?_; rotate_left
                        ·
                         intro w'; go_simp; with_reducible rfl
                        rotate_left
                        ·
                         simp only [Act.put, List.setIfInBounds_toArray, List.set_cons_zero, List.set_cons_succ, i64_w, i32_w]; rfl
                        refine pure_ (i := 3) (N := some 85) (v := ?_) (a' := ?_) #[true, true, true, true, false, false, false, false, false, false] rfl rfl (any_of HT_.out (by kernel_rfl)) (fun _ _ _ h => h) (Or.inl ⟨by rfl, ?_⟩) ?_ ?_; rotate_left
                        ·
                         intro w'; go_simp; with_reducible rfl
                        rotate_left
                        ·
                         simp only [Act.put, List.setIfInBounds_toArray, List.set_cons_zero, List.set_cons_succ, i64_w, i32_w]; rfl
                        refine pure_ (i := 6) (N := some 88) (v := ?_) (a' := ?_) #[true, true, true, true, false, false, true, false, false, false] rfl rfl (any_of HT_.out (by kernel_rfl)) (fun _ _ _ h => h) (Or.inl ⟨by rfl, ?_⟩) ?_ ?_; rotate_left
                        ·
                         intro w'; go_simp; with_reducible rfl
                        rotate_left
                        ·
                         simp only [Act.put, List.setIfInBounds_toArray, List.set_cons_zero, List.set_cons_succ, i64_w, i32_w]; rfl
                        refine take_ (i := 4) (N := some 86) (v := ?_) (a' := ?_) #[true, true, true, true, true, false, true, false, false, false] rfl rfl (take_ofW HT_.out HW_.out (by kernel_rfl)) (fun _ _ _ h => h) (Or.inl ⟨by rfl, ?_⟩) hHeld ?_ ?_; rotate_left
                        ·
                         intro w' s0; go_simp; with_reducible rfl
                        rotate_left
                        ·
                         simp only [Act.put, List.setIfInBounds_toArray, List.set_cons_zero, List.set_cons_succ, i64_w, i32_w]; rfl
                        refine pure_ (i := 5) (N := some 87) (v := ?_) (a' := ?_) #[true, true, true, true, true, true, true, false, false, false] rfl rfl (any_of HT_.out (by kernel_rfl)) (fun _ _ _ h => h) (Or.inl ⟨by rfl, ?_⟩) ?_ ?_; rotate_left
                        ·
                         intro w'; go_simp; with_reducible rfl
                        rotate_left
                        ·
                         simp only [Act.put, List.setIfInBounds_toArray, List.set_cons_zero, List.set_cons_succ, i64_w, i32_w]; rfl
                        refine one_ (i := 7) (N := some 89) #[true, true, true, true, true, true, true, true, false, false] rfl rfl (one_of HT_.out (by kernel_rfl)) (by decide) (fun K hK => ?_); refine goes_ Tryd.func50 (by kernel_rfl) rfl #[.int .i64 (rd l0_1 (ji29))] (by rfl) rfl rfl (by (try simp only [List.map_toArray, List.map_cons, List.map_nil]); first | done | (simp only [hji29]; rfl) | rfl | (simp only [List.length_drop, List.length_take]; rfl)) ?_; with_reducible refine (spec_l01Digits.calls k4 (rd l0_1 (ji29)) t246 _ A40.out).mono ?_
                        rintro e w46 ⟨rfl, hb⟩; refine ⟨_, rfl, ?_⟩; have n0_ := Aside0.mk (blk_below (g := gb238) (o := .cells #[.int .i64 a0_0, .slice (some ad243) l0_1.length c0_1] 37 (0, 0)) (by (with_reducible repeat (first | refine blk_drewN ?_ _ | refine blk_drew ?_ | refine blk_alloc ?_ _)); exact BK238.out) hb); have n1_ := Aside0.mk (below_step (by repeat (first | (with_reducible first | exact HB.out | apply below_alloc | apply pw_below_drewN | apply below_drew1 | refine below_set ?_ GE238.out) | exact HB.out)) hb); clear BK238 HB; have BK238 := n0_; have HB := n1_; clear n0_ n1_
                        (try clear hb)
                        (try clear hb2)
                        (try clear hk)
                        (try clear hi)
                        refine hK.out _ _ (((HB.out.cell (World.block_lt_of_cell? w _ hw245_0)).trans hw245_0)) (fun hHeld => ?_); clear hK K; refine norm_ (a' := ?_) ?_ ?_; rotate_left
                        ·
                         show Act.put _ (some 89) _ = _; simp only [Act.put, List.setIfInBounds_toArray, List.set_cons_zero, List.set_cons_succ, i64_w, i32_w]; rfl
                        refine pure_ (i := 8) (N := some 90) (v := ?_) (a' := ?_) #[true, true, true, true, true, true, true, true, true, false] rfl rfl (any_of HT_.out (by kernel_rfl)) (fun _ _ _ h => h) (Or.inl ⟨by rfl, ?_⟩) ?_ ?_; rotate_left
                        ·
                         intro w'; go_simp; with_reducible rfl
                        rotate_left
                        ·
                         simp only [Act.put, List.setIfInBounds_toArray, List.set_cons_zero, List.set_cons_succ, i64_w, i32_w]; rfl
                        refine pure_ (i := 9) (N := some 10) (v := ?_) (a' := ?_) #[true, true, true, true, true, true, true, true, true, true] rfl rfl (any_of HT_.out (by kernel_rfl)) (fun _ _ _ h => h) (Or.inl ⟨by rfl, ?_⟩) ?_ ?_; rotate_left
                        ·
                         intro w'; go_simp; with_reducible rfl
                        rotate_left
                        ·
                         simp only [Act.put, List.setIfInBounds_toArray, List.set_cons_zero, List.set_cons_succ, i64_w, i32_w]; rfl
                        refine done_ (done_of HT_.out (by kernel_rfl)) ?_
                        try go_wp2
                        go_roundg k4
                        case measure => have := HJ7.out; have := HK2.out; have := HK3.out; have := HK4.out; omega
                        case rel => exact ⟨(x6_4 ++ (((rdOf ByteArray.empty l1 (ji36)) ++ (⟨#[32, 60, 61, 32]⟩ : ByteArray)) ++ t246)), (wrap64 (x8_4 + 1)), (by first | rfl | (simp; done) | (simp only [← hji36] <;> (first | rfl | simp)) | (simp [*]; done)), (by first | rfl | (simp; done) | (simp [*]; done)), H', ⟨by have := HJ7.out; have := HK2.out; have := HK3.out; have := HK4.out; omega⟩, ⟨by (with_reducible repeat (first | refine blk_drewN ?_ _ | refine blk_drew ?_ | refine blk_alloc ?_ _)); exact BK238.out⟩, ⟨by repeat (first | (with_reducible first | exact HB.out | apply below_alloc | apply pw_below_drewN | apply below_drew1 | refine below_set ?_ GE238.out) | exact HB.out)⟩⟩
                       ·
                        rw [if_neg c43] at H; exact absurd H (by simp)
                      ·
                       rw [if_neg c42] at H; have c42b0 : (x6_4.toList == ([] : List UInt8)) = false := beq_eq_false_iff_ne.mpr c42; have c42b1 : (x6_4.toList != ([] : List UInt8)) = true := bne_iff_ne.mpr c42
                       (try (have c42b2 : x6_4.toList.isEmpty = false := List.isEmpty_eq_false_iff.mpr c42))
                       by_cases c47 : x6_4.size + 2 ≤ 9223372036854775807
                       ·
                        rw [if_pos c47] at H; have c47b0 := eq_true c47; have c47b1 : decide (x6_4.size + 2 ≤ 9223372036854775807) = true := decide_eq_true c47
                        try have c47b2 : (9223372036854775807 < x6_4.size + 2) = False := eq_false (Nat.not_lt.2 c47)
                        by_cases c48 : x6_4.size + 2 + (rdOf ByteArray.empty l1 (ji36)).size + 4 + t246.size ≤ 9223372036854775807
                        ·
                         rw [if_pos c48] at H; have c48b0 := eq_true c48; have c48b1 : decide (x6_4.size + 2 + (rdOf ByteArray.empty l1 (ji36)).size + 4 + t246.size ≤ 9223372036854775807) = true := decide_eq_true c48
                         try have c48b2 : (9223372036854775807 < x6_4.size + 2 + (rdOf ByteArray.empty l1 (ji36)).size + 4 + t246.size) = False := eq_false (Nat.not_lt.2 c48)
                         have H' := Aside0.mk H; clear H; have hcz49_0 : wr.cell? ⟨gb238, 0, none⟩ = some (.int .i64 a0_0) := (blk_cell BK238.out 0).trans rfl; have hcz49_1 : wr.cell? ⟨gb238, 1, none⟩ = some (.slice A0_1 l0_1.length c0_1) := (blk_cell BK238.out 1).trans rfl; have hfz49_0 := blk_frozen BK238.out 0; have hfz49_1 := blk_frozen BK238.out 1; have p243 : 0 ≤ ((ji29) : Int) := of_decide_eq_true (by first | (with_reducible assumption) | assumption); have q243 : (ji29) < (l0_1.length : Int) := of_decide_eq_true (by first | (with_reducible assumption) | assumption); obtain ⟨ad243, e243, hx243_0⟩ := Kd.at_int HR0_1.out (ji29) p243 q243; cases e243; replace hx243_0 := (HB.out.cell (World.block_lt_of_cell? w _ hx243_0)).trans hx243_0; replace p243 := eq_true p243; replace q243 := eq_true q243
                         try go_wp2_with (first | ((with_reducible refine gate_callee (f := 49) rfl ?_); refine goesL_ (some 61) rfl rfl Tryd.func49 (by kernel_rfl) rfl #[.int .i64 x7_3, .int .i64 x8_4] rfl (by (try simp only [List.map_toArray, List.map_cons, List.map_nil]); first | done | rfl | (simp only [List.length_drop, List.length_take]; rfl)) ?_; (with_reducible refine (spec_l07Cap.calls x7_3 x8_4 t244 _ A32.out).mono ?_); rintro e w' ⟨rfl, ⟨nd, rfl⟩⟩; refine ⟨_, rfl, ?_⟩))
                         (try (rw [drewN_self wr]; generalize hq_ : World.drewN wr _ = wr; have n0_ : Aside0 (wr.heap[gb238]? = some (.cells #[.int .i64 a0_0, .slice (some ad243) l0_1.length c0_1] 37 (0, 0))) := ⟨by rw [← hq_]; exact (by (with_reducible repeat (first | refine blk_drewN ?_ _ | refine blk_drew ?_ | refine blk_alloc ?_ _)); exact BK238.out)⟩; have n1_ : Aside0 (Below w.heap.size w wr) := ⟨by rw [← hq_]; exact (by repeat (first | (with_reducible first | exact HB.out | apply below_alloc | apply pw_below_drewN | apply below_drew1 | refine below_set ?_ GE238.out) | exact HB.out))⟩; clear BK238 HB hq_; have BK238 := n0_; have HB := n1_; clear n0_ n1_))
                         have n0_ := Aside0.mk (blk_drew BK238.out); have n1_ := Aside0.mk (below_drew1 HB.out); clear BK238 HB; have BK238 := n0_; have HB := n1_; clear n0_ n1_; have p245 : 0 ≤ ((ji36) : Int) := of_decide_eq_true (by first | (with_reducible assumption) | assumption); have q245 : (ji36) < (l1.length : Int) := of_decide_eq_true (by first | (with_reducible assumption) | assumption); obtain ⟨ad245, e245, hx245_0⟩ := Kd.at_string HR1.out (ji36) p245 q245; have hw245_0 := hx245_0; cases e245; replace hx245_0 := (HB.out.cell (World.block_lt_of_cell? w _ hx245_0)).trans hx245_0; replace p245 := eq_true p245; replace q245 := eq_true q245; refine start_ (n := 10) (S := fun w' => w'.cell? (ad245.add ((ji36)).toNat) = some (.string (rdOf ByteArray.empty l1 (ji36)))) (ds := []) #[false, false, false, false, false, false, false, false, false, false] (by kernel_rfl) rfl rfl (((HB.out.cell (World.block_lt_of_cell? w _ hw245_0)).trans hw245_0)) (fun hHeld => ?_); refine with_tabW spec_FactsText.tab22 spec_FactsText.bits22 (fun HT_ HW_ => ?_); generalize wr.drew = w50 at BK238 HB hx245_0 hHeld ⊢; refine pure_ (i := 0) (N := some 82) (v := ?_) (a' := ?_) #[true, false, false, false, false, false, false, false, false, false] rfl rfl (any_of HT_.out (by kernel_rfl)) (fun _ _ _ h => h) (Or.inl ⟨by rfl, ?_⟩) ?_ ?_; rotate_left
                         ·
                          intro w'; go_simp; with_reducible rfl
                         rotate_left
                         ·
                          simp only [Act.put, List.setIfInBounds_toArray, List.set_cons_zero, List.set_cons_succ, i64_w, i32_w]; rfl
                         refine pure_ (i := 1) (N := some 83) (v := ?_) (a' := ?_) #[true, true, false, false, false, false, false, false, false, false] rfl rfl (any_of HT_.out (by kernel_rfl)) (fun _ _ _ h => h) (Or.inl ⟨by rfl, ?_⟩) ?_ ?_; rotate_left
                         ·
                          intro w'; go_simp; with_reducible rfl
                         rotate_left
                         ·
                          simp only [Act.put, List.setIfInBounds_toArray, List.set_cons_zero, List.set_cons_succ, i64_w, i32_w]; rfl
                         refine pure_ (i := 2) (N := some 84) (v := ?_) (a' := ?_) #[true, true, true, false, false, false, false, false, false, false] rfl rfl (any_of HT_.out (by kernel_rfl)) (fun _ _ _ h => h) (Or.inl ⟨by rfl, ?_⟩) ?_ ?_; rotate_left
                         ·
                          intro w'; go_simp; with_reducible rfl
                         rotate_left
                         ·
                          simp only [Act.put, List.setIfInBounds_toArray, List.set_cons_zero, List.set_cons_succ, i64_w, i32_w]; rfl
                         refine pure_ (i := 3) (N := some 85) (v := ?_) (a' := ?_) #[true, true, true, true, false, false, false, false, false, false] rfl rfl (any_of HT_.out (by kernel_rfl)) (fun _ _ _ h => h) (Or.inl ⟨by rfl, ?_⟩) ?_ ?_; rotate_left
                         ·
                          intro w'; go_simp; with_reducible rfl
                         rotate_left
                         ·
                          simp only [Act.put, List.setIfInBounds_toArray, List.set_cons_zero, List.set_cons_succ, i64_w, i32_w]; rfl
                         refine pure_ (i := 6) (N := some 88) (v := ?_) (a' := ?_) #[true, true, true, true, false, false, true, false, false, false] rfl rfl (any_of HT_.out (by kernel_rfl)) (fun _ _ _ h => h) (Or.inl ⟨by rfl, ?_⟩) ?_ ?_; rotate_left
                         ·
                          intro w'; go_simp; with_reducible rfl
                         rotate_left
                         ·
                          simp only [Act.put, List.setIfInBounds_toArray, List.set_cons_zero, List.set_cons_succ, i64_w, i32_w]; rfl
                         refine take_ (i := 4) (N := some 86) (v := ?_) (a' := ?_) #[true, true, true, true, true, false, true, false, false, false] rfl rfl (take_ofW HT_.out HW_.out (by kernel_rfl)) (fun _ _ _ h => h) (Or.inl ⟨by rfl, ?_⟩) hHeld ?_ ?_; rotate_left
                         ·
                          intro w' s0; go_simp; with_reducible rfl
                         rotate_left
                         ·
                          simp only [Act.put, List.setIfInBounds_toArray, List.set_cons_zero, List.set_cons_succ, i64_w, i32_w]; rfl
                         refine pure_ (i := 5) (N := some 87) (v := ?_) (a' := ?_) #[true, true, true, true, true, true, true, false, false, false] rfl rfl (any_of HT_.out (by kernel_rfl)) (fun _ _ _ h => h) (Or.inl ⟨by rfl, ?_⟩) ?_ ?_; rotate_left
                         ·
                          intro w'; go_simp; with_reducible rfl
                         rotate_left
                         ·
                          simp only [Act.put, List.setIfInBounds_toArray, List.set_cons_zero, List.set_cons_succ, i64_w, i32_w]; rfl
                         refine one_ (i := 7) (N := some 89) #[true, true, true, true, true, true, true, true, false, false] rfl rfl (one_of HT_.out (by kernel_rfl)) (by decide) (fun K hK => ?_); refine goes_ Tryd.func50 (by kernel_rfl) rfl #[.int .i64 (rd l0_1 (ji29))] (by rfl) rfl rfl (by (try simp only [List.map_toArray, List.map_cons, List.map_nil]); first | done | (simp only [hji29]; rfl) | rfl | (simp only [List.length_drop, List.length_take]; rfl)) ?_; with_reducible refine (spec_l01Digits.calls k4 (rd l0_1 (ji29)) t246 _ A40.out).mono ?_
                         rintro e w51 ⟨rfl, hb⟩; refine ⟨_, rfl, ?_⟩; have n0_ := Aside0.mk (blk_below (g := gb238) (o := .cells #[.int .i64 a0_0, .slice (some ad243) l0_1.length c0_1] 37 (0, 0)) (by (with_reducible repeat (first | refine blk_drewN ?_ _ | refine blk_drew ?_ | refine blk_alloc ?_ _)); exact BK238.out) hb); have n1_ := Aside0.mk (below_step (by repeat (first | (with_reducible first | exact HB.out | apply below_alloc | apply pw_below_drewN | apply below_drew1 | refine below_set ?_ GE238.out) | exact HB.out)) hb); clear BK238 HB; have BK238 := n0_; have HB := n1_; clear n0_ n1_
                         (try clear hb)
                         (try clear hb2)
                         (try clear hk)
                         (try clear hi)
                         refine hK.out _ _ (((HB.out.cell (World.block_lt_of_cell? w _ hw245_0)).trans hw245_0)) (fun hHeld => ?_); clear hK K; refine norm_ (a' := ?_) ?_ ?_; rotate_left
                         ·
                          show Act.put _ (some 89) _ = _; simp only [Act.put, List.setIfInBounds_toArray, List.set_cons_zero, List.set_cons_succ, i64_w, i32_w]; rfl
                         refine pure_ (i := 8) (N := some 90) (v := ?_) (a' := ?_) #[true, true, true, true, true, true, true, true, true, false] rfl rfl (any_of HT_.out (by kernel_rfl)) (fun _ _ _ h => h) (Or.inl ⟨by rfl, ?_⟩) ?_ ?_; rotate_left
                         ·
                          intro w'; go_simp; with_reducible rfl
                         rotate_left
                         ·
                          simp only [Act.put, List.setIfInBounds_toArray, List.set_cons_zero, List.set_cons_succ, i64_w, i32_w]; rfl
                         refine pure_ (i := 9) (N := some 10) (v := ?_) (a' := ?_) #[true, true, true, true, true, true, true, true, true, true] rfl rfl (any_of HT_.out (by kernel_rfl)) (fun _ _ _ h => h) (Or.inl ⟨by rfl, ?_⟩) ?_ ?_; rotate_left
                         ·
                          intro w'; go_simp; with_reducible rfl
                         rotate_left
                         ·
                          simp only [Act.put, List.setIfInBounds_toArray, List.set_cons_zero, List.set_cons_succ, i64_w, i32_w]; rfl
                         refine done_ (done_of HT_.out (by kernel_rfl)) ?_
                         try go_wp2
                         go_roundg k4
                         case measure => have := HJ7.out; have := HK2.out; have := HK3.out; have := HK4.out; omega
                         case rel => exact ⟨((x6_4 ++ (⟨#[44, 32]⟩ : ByteArray)) ++ (((rdOf ByteArray.empty l1 (ji36)) ++ (⟨#[32, 60, 61, 32]⟩ : ByteArray)) ++ t246)), (wrap64 (x8_4 + 1)), (by first | rfl | (simp; done) | (simp only [← hji36] <;> (first | rfl | simp)) | (simp [*]; done)), (by first | rfl | (simp; done) | (simp [*]; done)), H', ⟨by have := HJ7.out; have := HK2.out; have := HK3.out; have := HK4.out; omega⟩, ⟨by (with_reducible repeat (first | refine blk_drewN ?_ _ | refine blk_drew ?_ | refine blk_alloc ?_ _)); exact BK238.out⟩, ⟨by repeat (first | (with_reducible first | exact HB.out | apply below_alloc | apply pw_below_drewN | apply below_drew1 | refine below_set ?_ GE238.out) | exact HB.out)⟩⟩
                        ·
                         rw [if_neg c48] at H; exact absurd H (by simp)
                       ·
                        rw [if_neg c47] at H; exact absurd H (by simp)
                     ·
                      rw [if_neg c41] at H; exact absurd H (by simp)
                    ·
                     rw [if_neg c39] at H; exact absurd H (by simp)
                   ·
                    rw [if_neg c38] at H; exact absurd H (by simp)
                  ·
                   rw [if_neg c37] at H; exact absurd H (by simp)
                 ·
                  rw [if_neg c35] at H; have c35b0 : (x8_4 == 0) = false := beq_eq_false_iff_ne.mpr c35; have c35b1 : (x8_4 != 0) = true := bne_iff_ne.mpr c35
                  by_cases c52 : x7_3 = 0
                  ·
                   rw [if_pos c52] at H; have c52b0 : (x7_3 == 0) = true := beq_iff_eq.mpr c52; have c52b1 : (x7_3 != 0) = false := bne_eq_false_iff_eq.mpr c52; clear c52; obtain ⟨ji53, hji53⟩ : ∃ j_ : Int, (wrap64 (x8_4 - 1)) = j_ := ⟨_, rfl⟩; replace H : (if 0 ≤ (ji53) then (if (ji53) < (l1.length : Int) then (if (rdOf ByteArray.empty l1 (ji53)).size + 4 ≤ 9223372036854775807 then ((spec_l01Digits.f k4 (wrap64 (-(rd l0_1 (ji29))))).bind fun t248 => (if (rdOf ByteArray.empty l1 (ji53)).size + 4 + t248.size ≤ 9223372036854775807 then (if x6_4.toList = ([] : List UInt8) then (if x6_4.size + (rdOf ByteArray.empty l1 (ji53)).size + 4 + t248.size ≤ 9223372036854775807 then (spec_FactsText.l2 k4 l1 (x6_4 ++ (((rdOf ByteArray.empty l1 (ji53)) ++ (⟨#[32, 62, 61, 32]⟩ : ByteArray)) ++ t248)) x7_3 (wrap64 (x8_4 + 1)) a0_0 l0_1) else (none)) else (if x6_4.size + 2 ≤ 9223372036854775807 then (if x6_4.size + 2 + (rdOf ByteArray.empty l1 (ji53)).size + 4 + t248.size ≤ 9223372036854775807 then (spec_FactsText.l2 k4 l1 ((x6_4 ++ (⟨#[44, 32]⟩ : ByteArray)) ++ (((rdOf ByteArray.empty l1 (ji53)) ++ (⟨#[32, 62, 61, 32]⟩ : ByteArray)) ++ t248)) x7_3 (wrap64 (x8_4 + 1)) a0_0 l0_1) else (none)) else (none))) else (none))) else (none)) else (none)) else (none)) = some r := by first | (rw [hji53] at H; exact H) | (simp only [hji53] at H ⊢; exact H)
                   (try rw [hji53] at A32)
                   have hji53w : (IntKind.i64.wrap (x8_4 - 1)) = ji53 := (i64_w _).trans hji53
                   by_cases c54 : 0 ≤ (ji53)
                   ·
                    rw [if_pos c54] at H; have c54b0 : decide (0 ≤ (ji53)) = true := decide_eq_true c54; clear c54
                    by_cases c55 : (ji53) < (l1.length : Int)
                    ·
                     rw [if_pos c55] at H; have c55b0 : decide ((ji53) < (l1.length : Int)) = true := decide_eq_true c55; clear c55
                     by_cases c56 : (rdOf ByteArray.empty l1 (ji53)).size + 4 ≤ 9223372036854775807
                     ·
                      rw [if_pos c56] at H; have c56b0 := eq_true c56; have c56b1 : decide ((rdOf ByteArray.empty l1 (ji53)).size + 4 ≤ 9223372036854775807) = true := decide_eq_true c56
                      try have c56b2 : (9223372036854775807 < (rdOf ByteArray.empty l1 (ji53)).size + 4) = False := eq_false (Nat.not_lt.2 c56)
                      replace H := Option.bind_eq_some_iff.mp H; obtain ⟨t248, A570, H⟩ := H; replace H : (if (rdOf ByteArray.empty l1 (ji53)).size + 4 + t248.size ≤ 9223372036854775807 then (if x6_4.toList = ([] : List UInt8) then (if x6_4.size + (rdOf ByteArray.empty l1 (ji53)).size + 4 + t248.size ≤ 9223372036854775807 then (spec_FactsText.l2 k4 l1 (x6_4 ++ (((rdOf ByteArray.empty l1 (ji53)) ++ (⟨#[32, 62, 61, 32]⟩ : ByteArray)) ++ t248)) x7_3 (wrap64 (x8_4 + 1)) a0_0 l0_1) else (none)) else (if x6_4.size + 2 ≤ 9223372036854775807 then (if x6_4.size + 2 + (rdOf ByteArray.empty l1 (ji53)).size + 4 + t248.size ≤ 9223372036854775807 then (spec_FactsText.l2 k4 l1 ((x6_4 ++ (⟨#[44, 32]⟩ : ByteArray)) ++ (((rdOf ByteArray.empty l1 (ji53)) ++ (⟨#[32, 62, 61, 32]⟩ : ByteArray)) ++ t248)) x7_3 (wrap64 (x8_4 + 1)) a0_0 l0_1) else (none)) else (none))) else (none)) = some r := H; have A57 := Aside0.mk A570; clear A570
                      by_cases c58 : (rdOf ByteArray.empty l1 (ji53)).size + 4 + t248.size ≤ 9223372036854775807
                      ·
                       rw [if_pos c58] at H; have c58b0 := eq_true c58; have c58b1 : decide ((rdOf ByteArray.empty l1 (ji53)).size + 4 + t248.size ≤ 9223372036854775807) = true := decide_eq_true c58
                       try have c58b2 : (9223372036854775807 < (rdOf ByteArray.empty l1 (ji53)).size + 4 + t248.size) = False := eq_false (Nat.not_lt.2 c58)
                       by_cases c59 : x6_4.toList = ([] : List UInt8)
                       ·
                        rw [if_pos c59] at H; have c59b0 : (x6_4.toList == ([] : List UInt8)) = true := beq_iff_eq.mpr c59; have c59b1 : (x6_4.toList != ([] : List UInt8)) = false := bne_eq_false_iff_eq.mpr c59
                        (try (have c59b2 : x6_4.toList.isEmpty = true := by rw [c59]; rfl))
                        clear c59
                        by_cases c60 : x6_4.size + (rdOf ByteArray.empty l1 (ji53)).size + 4 + t248.size ≤ 9223372036854775807
                        ·
                         rw [if_pos c60] at H; have c60b0 := eq_true c60; have c60b1 : decide (x6_4.size + (rdOf ByteArray.empty l1 (ji53)).size + 4 + t248.size ≤ 9223372036854775807) = true := decide_eq_true c60
                         try have c60b2 : (9223372036854775807 < x6_4.size + (rdOf ByteArray.empty l1 (ji53)).size + 4 + t248.size) = False := eq_false (Nat.not_lt.2 c60)
                         have H' := Aside0.mk H; clear H; have hcz61_0 : wr.cell? ⟨gb238, 0, none⟩ = some (.int .i64 a0_0) := (blk_cell BK238.out 0).trans rfl; have hcz61_1 : wr.cell? ⟨gb238, 1, none⟩ = some (.slice A0_1 l0_1.length c0_1) := (blk_cell BK238.out 1).trans rfl; have hfz61_0 := blk_frozen BK238.out 0; have hfz61_1 := blk_frozen BK238.out 1; have p243 : 0 ≤ ((ji29) : Int) := of_decide_eq_true (by first | (with_reducible assumption) | assumption); have q243 : (ji29) < (l0_1.length : Int) := of_decide_eq_true (by first | (with_reducible assumption) | assumption); obtain ⟨ad243, e243, hx243_0⟩ := Kd.at_int HR0_1.out (ji29) p243 q243; cases e243; replace hx243_0 := (HB.out.cell (World.block_lt_of_cell? w _ hx243_0)).trans hx243_0; replace p243 := eq_true p243; replace q243 := eq_true q243
                         try go_wp2_with (first | ((with_reducible refine gate_callee (f := 49) rfl ?_); refine goesL_ (some 61) rfl rfl Tryd.func49 (by kernel_rfl) rfl #[.int .i64 x7_3, .int .i64 x8_4] rfl (by (try simp only [List.map_toArray, List.map_cons, List.map_nil]); first | done | rfl | (simp only [List.length_drop, List.length_take]; rfl)) ?_; (with_reducible refine (spec_l07Cap.calls x7_3 x8_4 t244 _ A32.out).mono ?_); rintro e w' ⟨rfl, ⟨nd, rfl⟩⟩; refine ⟨_, rfl, ?_⟩))
                         (try (rw [drewN_self wr]; generalize hq_ : World.drewN wr _ = wr; have n0_ : Aside0 (wr.heap[gb238]? = some (.cells #[.int .i64 a0_0, .slice (some ad243) l0_1.length c0_1] 37 (0, 0))) := ⟨by rw [← hq_]; exact (by (with_reducible repeat (first | refine blk_drewN ?_ _ | refine blk_drew ?_ | refine blk_alloc ?_ _)); exact BK238.out)⟩; have n1_ : Aside0 (Below w.heap.size w wr) := ⟨by rw [← hq_]; exact (by repeat (first | (with_reducible first | exact HB.out | apply below_alloc | apply pw_below_drewN | apply below_drew1 | refine below_set ?_ GE238.out) | exact HB.out))⟩; clear BK238 HB hq_; have BK238 := n0_; have HB := n1_; clear n0_ n1_))
                         have n0_ := Aside0.mk (blk_drew BK238.out); have n1_ := Aside0.mk (below_drew1 HB.out); clear BK238 HB; have BK238 := n0_; have HB := n1_; clear n0_ n1_; have p247 : 0 ≤ ((ji53) : Int) := of_decide_eq_true (by first | (with_reducible assumption) | assumption); have q247 : (ji53) < (l1.length : Int) := of_decide_eq_true (by first | (with_reducible assumption) | assumption); obtain ⟨ad247, e247, hx247_0⟩ := Kd.at_string HR1.out (ji53) p247 q247; have hw247_0 := hx247_0; cases e247; replace hx247_0 := (HB.out.cell (World.block_lt_of_cell? w _ hx247_0)).trans hx247_0; replace p247 := eq_true p247; replace q247 := eq_true q247; refine start_ (n := 11) (S := fun w' => w'.cell? (ad247.add ((ji53)).toNat) = some (.string (rdOf ByteArray.empty l1 (ji53)))) (ds := []) #[false, false, false, false, false, false, false, false, false, false, false] (by kernel_rfl) rfl rfl (((HB.out.cell (World.block_lt_of_cell? w _ hw247_0)).trans hw247_0)) (fun hHeld => ?_); refine with_tabW spec_FactsText.tab24 spec_FactsText.bits24 (fun HT_ HW_ => ?_); generalize wr.drew = w62 at BK238 HB hx247_0 hHeld ⊢; refine pure_ (i := 0) (N := some 94) (v := ?_) (a' := ?_) #[true, false, false, false, false, false, false, false, false, false, false] rfl rfl (any_of HT_.out (by kernel_rfl)) (fun _ _ _ h => h) (Or.inl ⟨by rfl, ?_⟩) ?_ ?_; rotate_left
                         ·
                          intro w'; go_simp; with_reducible rfl
                         rotate_left
                         ·
                          simp only [Act.put, List.setIfInBounds_toArray, List.set_cons_zero, List.set_cons_succ, i64_w, i32_w]; rfl
                         refine pure_ (i := 1) (N := some 95) (v := ?_) (a' := ?_) #[true, true, false, false, false, false, false, false, false, false, false] rfl rfl (any_of HT_.out (by kernel_rfl)) (fun _ _ _ h => h) (Or.inl ⟨by rfl, ?_⟩) ?_ ?_; rotate_left
                         ·
                          intro w'; go_simp; with_reducible rfl
                         rotate_left
                         ·
                          simp only [Act.put, List.setIfInBounds_toArray, List.set_cons_zero, List.set_cons_succ, i64_w, i32_w]; rfl
                         refine pure_ (i := 2) (N := some 96) (v := ?_) (a' := ?_) #[true, true, true, false, false, false, false, false, false, false, false] rfl rfl (any_of HT_.out (by kernel_rfl)) (fun _ _ _ h => h) (Or.inl ⟨by rfl, ?_⟩) ?_ ?_; rotate_left
                         ·
                          intro w'; go_simp; with_reducible rfl
                         rotate_left
                         ·
                          simp only [Act.put, List.setIfInBounds_toArray, List.set_cons_zero, List.set_cons_succ, i64_w, i32_w]; rfl
                         refine pure_ (i := 3) (N := some 97) (v := ?_) (a' := ?_) #[true, true, true, true, false, false, false, false, false, false, false] rfl rfl (any_of HT_.out (by kernel_rfl)) (fun _ _ _ h => h) (Or.inl ⟨by rfl, ?_⟩) ?_ ?_; rotate_left
                         ·
                          intro w'; go_simp; with_reducible rfl
                         rotate_left
                         ·
                          simp only [Act.put, List.setIfInBounds_toArray, List.set_cons_zero, List.set_cons_succ, i64_w, i32_w]; rfl
                         refine pure_ (i := 6) (N := some 100) (v := ?_) (a' := ?_) #[true, true, true, true, false, false, true, false, false, false, false] rfl rfl (any_of HT_.out (by kernel_rfl)) (fun _ _ _ h => h) (Or.inl ⟨by rfl, ?_⟩) ?_ ?_; rotate_left
                         ·
                          intro w'; go_simp; with_reducible rfl
                         rotate_left
                         ·
                          simp only [Act.put, List.setIfInBounds_toArray, List.set_cons_zero, List.set_cons_succ, i64_w, i32_w]; rfl
                         refine pure_ (i := 7) (N := some 101) (v := ?_) (a' := ?_) #[true, true, true, true, false, false, true, true, false, false, false] rfl rfl (any_of HT_.out (by kernel_rfl)) (fun _ _ _ h => h) (Or.inl ⟨by rfl, ?_⟩) ?_ ?_; rotate_left
                         ·
                          intro w'; go_simp; with_reducible rfl
                         rotate_left
                         ·
                          simp only [Act.put, List.setIfInBounds_toArray, List.set_cons_zero, List.set_cons_succ, i64_w, i32_w]; rfl
                         refine take_ (i := 4) (N := some 98) (v := ?_) (a' := ?_) #[true, true, true, true, true, false, true, true, false, false, false] rfl rfl (take_ofW HT_.out HW_.out (by kernel_rfl)) (fun _ _ _ h => h) (Or.inl ⟨by rfl, ?_⟩) hHeld ?_ ?_; rotate_left
                         ·
                          intro w' s0; go_simp; with_reducible rfl
                         rotate_left
                         ·
                          simp only [Act.put, List.setIfInBounds_toArray, List.set_cons_zero, List.set_cons_succ, i64_w, i32_w]; rfl
                         refine pure_ (i := 5) (N := some 99) (v := ?_) (a' := ?_) #[true, true, true, true, true, true, true, true, false, false, false] rfl rfl (any_of HT_.out (by kernel_rfl)) (fun _ _ _ h => h) (Or.inl ⟨by rfl, ?_⟩) ?_ ?_; rotate_left
                         ·
                          intro w'; go_simp; with_reducible rfl
                         rotate_left
                         ·
                          simp only [Act.put, List.setIfInBounds_toArray, List.set_cons_zero, List.set_cons_succ, i64_w, i32_w]; rfl
                         refine one_ (i := 8) (N := some 102) #[true, true, true, true, true, true, true, true, true, false, false] rfl rfl (one_of HT_.out (by kernel_rfl)) (by decide) (fun K hK => ?_); refine goes_ Tryd.func50 (by kernel_rfl) rfl #[.int .i64 (wrap64 (-(rd l0_1 (ji29))))] (by rfl) rfl rfl (by (try simp only [List.map_toArray, List.map_cons, List.map_nil]); first | done | (simp only [hji29]; rfl) | rfl | (simp only [List.length_drop, List.length_take]; rfl)) ?_; with_reducible refine (spec_l01Digits.calls k4 (wrap64 (-(rd l0_1 (ji29)))) t248 _ A57.out).mono ?_
                         rintro e w63 ⟨rfl, hb⟩; refine ⟨_, rfl, ?_⟩; have n0_ := Aside0.mk (blk_below (g := gb238) (o := .cells #[.int .i64 a0_0, .slice (some ad243) l0_1.length c0_1] 37 (0, 0)) (by (with_reducible repeat (first | refine blk_drewN ?_ _ | refine blk_drew ?_ | refine blk_alloc ?_ _)); exact BK238.out) hb); have n1_ := Aside0.mk (below_step (by repeat (first | (with_reducible first | exact HB.out | apply below_alloc | apply pw_below_drewN | apply below_drew1 | refine below_set ?_ GE238.out) | exact HB.out)) hb); clear BK238 HB; have BK238 := n0_; have HB := n1_; clear n0_ n1_
                         (try clear hb)
                         (try clear hb2)
                         (try clear hk)
                         (try clear hi)
                         refine hK.out _ _ (((HB.out.cell (World.block_lt_of_cell? w _ hw247_0)).trans hw247_0)) (fun hHeld => ?_); clear hK K; refine norm_ (a' := ?_) ?_ ?_; rotate_left
                         ·
                          show Act.put _ (some 102) _ = _; simp only [Act.put, List.setIfInBounds_toArray, List.set_cons_zero, List.set_cons_succ, i64_w, i32_w]; rfl
                         refine pure_ (i := 9) (N := some 103) (v := ?_) (a' := ?_) #[true, true, true, true, true, true, true, true, true, true, false] rfl rfl (any_of HT_.out (by kernel_rfl)) (fun _ _ _ h => h) (Or.inl ⟨by rfl, ?_⟩) ?_ ?_; rotate_left
                         ·
                          intro w'; go_simp; with_reducible rfl
                         rotate_left
                         ·
                          simp only [Act.put, List.setIfInBounds_toArray, List.set_cons_zero, List.set_cons_succ, i64_w, i32_w]; rfl
                         refine pure_ (i := 10) (N := some 10) (v := ?_) (a' := ?_) #[true, true, true, true, true, true, true, true, true, true, true] rfl rfl (any_of HT_.out (by kernel_rfl)) (fun _ _ _ h => h) (Or.inl ⟨by rfl, ?_⟩) ?_ ?_; rotate_left
                         ·
                          intro w'; go_simp; with_reducible rfl
                         rotate_left
                         ·
                          simp only [Act.put, List.setIfInBounds_toArray, List.set_cons_zero, List.set_cons_succ, i64_w, i32_w]; rfl
                         refine done_ (done_of HT_.out (by kernel_rfl)) ?_
                         try go_wp2
                         go_roundg k4
                         case measure => have := HJ7.out; have := HK2.out; have := HK3.out; have := HK4.out; omega
                         case rel => exact ⟨(x6_4 ++ (((rdOf ByteArray.empty l1 (ji53)) ++ (⟨#[32, 62, 61, 32]⟩ : ByteArray)) ++ t248)), (wrap64 (x8_4 + 1)), (by first | rfl | (simp; done) | (simp only [← hji53] <;> (first | rfl | simp)) | (simp [*]; done)), (by first | rfl | (simp; done) | (simp [*]; done)), H', ⟨by have := HJ7.out; have := HK2.out; have := HK3.out; have := HK4.out; omega⟩, ⟨by (with_reducible repeat (first | refine blk_drewN ?_ _ | refine blk_drew ?_ | refine blk_alloc ?_ _)); exact BK238.out⟩, ⟨by repeat (first | (with_reducible first | exact HB.out | apply below_alloc | apply pw_below_drewN | apply below_drew1 | refine below_set ?_ GE238.out) | exact HB.out)⟩⟩
                        ·
                         rw [if_neg c60] at H; exact absurd H (by simp)
                       ·
                        rw [if_neg c59] at H; have c59b0 : (x6_4.toList == ([] : List UInt8)) = false := beq_eq_false_iff_ne.mpr c59; have c59b1 : (x6_4.toList != ([] : List UInt8)) = true := bne_iff_ne.mpr c59
                        (try (have c59b2 : x6_4.toList.isEmpty = false := List.isEmpty_eq_false_iff.mpr c59))
                        by_cases c64 : x6_4.size + 2 ≤ 9223372036854775807
                        ·
                         rw [if_pos c64] at H; have c64b0 := eq_true c64; have c64b1 : decide (x6_4.size + 2 ≤ 9223372036854775807) = true := decide_eq_true c64
                         try have c64b2 : (9223372036854775807 < x6_4.size + 2) = False := eq_false (Nat.not_lt.2 c64)
                         by_cases c65 : x6_4.size + 2 + (rdOf ByteArray.empty l1 (ji53)).size + 4 + t248.size ≤ 9223372036854775807
                         ·
                          rw [if_pos c65] at H; have c65b0 := eq_true c65; have c65b1 : decide (x6_4.size + 2 + (rdOf ByteArray.empty l1 (ji53)).size + 4 + t248.size ≤ 9223372036854775807) = true := decide_eq_true c65
                          try have c65b2 : (9223372036854775807 < x6_4.size + 2 + (rdOf ByteArray.empty l1 (ji53)).size + 4 + t248.size) = False := eq_false (Nat.not_lt.2 c65)
                          have H' := Aside0.mk H; clear H; have hcz66_0 : wr.cell? ⟨gb238, 0, none⟩ = some (.int .i64 a0_0) := (blk_cell BK238.out 0).trans rfl; have hcz66_1 : wr.cell? ⟨gb238, 1, none⟩ = some (.slice A0_1 l0_1.length c0_1) := (blk_cell BK238.out 1).trans rfl; have hfz66_0 := blk_frozen BK238.out 0; have hfz66_1 := blk_frozen BK238.out 1; have p243 : 0 ≤ ((ji29) : Int) := of_decide_eq_true (by first | (with_reducible assumption) | assumption); have q243 : (ji29) < (l0_1.length : Int) := of_decide_eq_true (by first | (with_reducible assumption) | assumption); obtain ⟨ad243, e243, hx243_0⟩ := Kd.at_int HR0_1.out (ji29) p243 q243; cases e243; replace hx243_0 := (HB.out.cell (World.block_lt_of_cell? w _ hx243_0)).trans hx243_0; replace p243 := eq_true p243; replace q243 := eq_true q243
                          try go_wp2_with (first | ((with_reducible refine gate_callee (f := 49) rfl ?_); refine goesL_ (some 61) rfl rfl Tryd.func49 (by kernel_rfl) rfl #[.int .i64 x7_3, .int .i64 x8_4] rfl (by (try simp only [List.map_toArray, List.map_cons, List.map_nil]); first | done | rfl | (simp only [List.length_drop, List.length_take]; rfl)) ?_; (with_reducible refine (spec_l07Cap.calls x7_3 x8_4 t244 _ A32.out).mono ?_); rintro e w' ⟨rfl, ⟨nd, rfl⟩⟩; refine ⟨_, rfl, ?_⟩))
                          (try (rw [drewN_self wr]; generalize hq_ : World.drewN wr _ = wr; have n0_ : Aside0 (wr.heap[gb238]? = some (.cells #[.int .i64 a0_0, .slice (some ad243) l0_1.length c0_1] 37 (0, 0))) := ⟨by rw [← hq_]; exact (by (with_reducible repeat (first | refine blk_drewN ?_ _ | refine blk_drew ?_ | refine blk_alloc ?_ _)); exact BK238.out)⟩; have n1_ : Aside0 (Below w.heap.size w wr) := ⟨by rw [← hq_]; exact (by repeat (first | (with_reducible first | exact HB.out | apply below_alloc | apply pw_below_drewN | apply below_drew1 | refine below_set ?_ GE238.out) | exact HB.out))⟩; clear BK238 HB hq_; have BK238 := n0_; have HB := n1_; clear n0_ n1_))
                          have n0_ := Aside0.mk (blk_drew BK238.out); have n1_ := Aside0.mk (below_drew1 HB.out); clear BK238 HB; have BK238 := n0_; have HB := n1_; clear n0_ n1_; have p247 : 0 ≤ ((ji53) : Int) := of_decide_eq_true (by first | (with_reducible assumption) | assumption); have q247 : (ji53) < (l1.length : Int) := of_decide_eq_true (by first | (with_reducible assumption) | assumption); obtain ⟨ad247, e247, hx247_0⟩ := Kd.at_string HR1.out (ji53) p247 q247; have hw247_0 := hx247_0; cases e247; replace hx247_0 := (HB.out.cell (World.block_lt_of_cell? w _ hx247_0)).trans hx247_0; replace p247 := eq_true p247; replace q247 := eq_true q247; refine start_ (n := 11) (S := fun w' => w'.cell? (ad247.add ((ji53)).toNat) = some (.string (rdOf ByteArray.empty l1 (ji53)))) (ds := []) #[false, false, false, false, false, false, false, false, false, false, false] (by kernel_rfl) rfl rfl (((HB.out.cell (World.block_lt_of_cell? w _ hw247_0)).trans hw247_0)) (fun hHeld => ?_); refine with_tabW spec_FactsText.tab24 spec_FactsText.bits24 (fun HT_ HW_ => ?_); generalize wr.drew = w67 at BK238 HB hx247_0 hHeld ⊢; refine pure_ (i := 0) (N := some 94) (v := ?_) (a' := ?_) #[true, false, false, false, false, false, false, false, false, false, false] rfl rfl (any_of HT_.out (by kernel_rfl)) (fun _ _ _ h => h) (Or.inl ⟨by rfl, ?_⟩) ?_ ?_; rotate_left
                          ·
                           intro w'; go_simp; with_reducible rfl
                          rotate_left
                          ·
                           simp only [Act.put, List.setIfInBounds_toArray, List.set_cons_zero, List.set_cons_succ, i64_w, i32_w]; rfl
                          refine pure_ (i := 1) (N := some 95) (v := ?_) (a' := ?_) #[true, true, false, false, false, false, false, false, false, false, false] rfl rfl (any_of HT_.out (by kernel_rfl)) (fun _ _ _ h => h) (Or.inl ⟨by rfl, ?_⟩) ?_ ?_; rotate_left
                          ·
                           intro w'; go_simp; with_reducible rfl
                          rotate_left
                          ·
                           simp only [Act.put, List.setIfInBounds_toArray, List.set_cons_zero, List.set_cons_succ, i64_w, i32_w]; rfl
                          refine pure_ (i := 2) (N := some 96) (v := ?_) (a' := ?_) #[true, true, true, false, false, false, false, false, false, false, false] rfl rfl (any_of HT_.out (by kernel_rfl)) (fun _ _ _ h => h) (Or.inl ⟨by rfl, ?_⟩) ?_ ?_; rotate_left
                          ·
                           intro w'; go_simp; with_reducible rfl
                          rotate_left
                          ·
                           simp only [Act.put, List.setIfInBounds_toArray, List.set_cons_zero, List.set_cons_succ, i64_w, i32_w]; rfl
                          refine pure_ (i := 3) (N := some 97) (v := ?_) (a' := ?_) #[true, true, true, true, false, false, false, false, false, false, false] rfl rfl (any_of HT_.out (by kernel_rfl)) (fun _ _ _ h => h) (Or.inl ⟨by rfl, ?_⟩) ?_ ?_; rotate_left
                          ·
                           intro w'; go_simp; with_reducible rfl
                          rotate_left
                          ·
                           simp only [Act.put, List.setIfInBounds_toArray, List.set_cons_zero, List.set_cons_succ, i64_w, i32_w]; rfl
                          refine pure_ (i := 6) (N := some 100) (v := ?_) (a' := ?_) #[true, true, true, true, false, false, true, false, false, false, false] rfl rfl (any_of HT_.out (by kernel_rfl)) (fun _ _ _ h => h) (Or.inl ⟨by rfl, ?_⟩) ?_ ?_; rotate_left
                          ·
                           intro w'; go_simp; with_reducible rfl
                          rotate_left
                          ·
                           simp only [Act.put, List.setIfInBounds_toArray, List.set_cons_zero, List.set_cons_succ, i64_w, i32_w]; rfl
                          refine pure_ (i := 7) (N := some 101) (v := ?_) (a' := ?_) #[true, true, true, true, false, false, true, true, false, false, false] rfl rfl (any_of HT_.out (by kernel_rfl)) (fun _ _ _ h => h) (Or.inl ⟨by rfl, ?_⟩) ?_ ?_; rotate_left
                          ·
                           intro w'; go_simp; with_reducible rfl
                          rotate_left
                          ·
                           simp only [Act.put, List.setIfInBounds_toArray, List.set_cons_zero, List.set_cons_succ, i64_w, i32_w]; rfl
                          refine take_ (i := 4) (N := some 98) (v := ?_) (a' := ?_) #[true, true, true, true, true, false, true, true, false, false, false] rfl rfl (take_ofW HT_.out HW_.out (by kernel_rfl)) (fun _ _ _ h => h) (Or.inl ⟨by rfl, ?_⟩) hHeld ?_ ?_; rotate_left
                          ·
                           intro w' s0; go_simp; with_reducible rfl
                          rotate_left
                          ·
                           simp only [Act.put, List.setIfInBounds_toArray, List.set_cons_zero, List.set_cons_succ, i64_w, i32_w]; rfl
                          refine pure_ (i := 5) (N := some 99) (v := ?_) (a' := ?_) #[true, true, true, true, true, true, true, true, false, false, false] rfl rfl (any_of HT_.out (by kernel_rfl)) (fun _ _ _ h => h) (Or.inl ⟨by rfl, ?_⟩) ?_ ?_; rotate_left
                          ·
                           intro w'; go_simp; with_reducible rfl
                          rotate_left
                          ·
                           simp only [Act.put, List.setIfInBounds_toArray, List.set_cons_zero, List.set_cons_succ, i64_w, i32_w]; rfl
                          refine one_ (i := 8) (N := some 102) #[true, true, true, true, true, true, true, true, true, false, false] rfl rfl (one_of HT_.out (by kernel_rfl)) (by decide) (fun K hK => ?_); refine goes_ Tryd.func50 (by kernel_rfl) rfl #[.int .i64 (wrap64 (-(rd l0_1 (ji29))))] (by rfl) rfl rfl (by (try simp only [List.map_toArray, List.map_cons, List.map_nil]); first | done | (simp only [hji29]; rfl) | rfl | (simp only [List.length_drop, List.length_take]; rfl)) ?_; with_reducible refine (spec_l01Digits.calls k4 (wrap64 (-(rd l0_1 (ji29)))) t248 _ A57.out).mono ?_
                          rintro e w68 ⟨rfl, hb⟩; refine ⟨_, rfl, ?_⟩; have n0_ := Aside0.mk (blk_below (g := gb238) (o := .cells #[.int .i64 a0_0, .slice (some ad243) l0_1.length c0_1] 37 (0, 0)) (by (with_reducible repeat (first | refine blk_drewN ?_ _ | refine blk_drew ?_ | refine blk_alloc ?_ _)); exact BK238.out) hb); have n1_ := Aside0.mk (below_step (by repeat (first | (with_reducible first | exact HB.out | apply below_alloc | apply pw_below_drewN | apply below_drew1 | refine below_set ?_ GE238.out) | exact HB.out)) hb); clear BK238 HB; have BK238 := n0_; have HB := n1_; clear n0_ n1_
                          (try clear hb)
                          (try clear hb2)
                          (try clear hk)
                          (try clear hi)
                          refine hK.out _ _ (((HB.out.cell (World.block_lt_of_cell? w _ hw247_0)).trans hw247_0)) (fun hHeld => ?_); clear hK K; refine norm_ (a' := ?_) ?_ ?_; rotate_left
                          ·
                           show Act.put _ (some 102) _ = _; simp only [Act.put, List.setIfInBounds_toArray, List.set_cons_zero, List.set_cons_succ, i64_w, i32_w]; rfl
                          refine pure_ (i := 9) (N := some 103) (v := ?_) (a' := ?_) #[true, true, true, true, true, true, true, true, true, true, false] rfl rfl (any_of HT_.out (by kernel_rfl)) (fun _ _ _ h => h) (Or.inl ⟨by rfl, ?_⟩) ?_ ?_; rotate_left
                          ·
                           intro w'; go_simp; with_reducible rfl
                          rotate_left
                          ·
                           simp only [Act.put, List.setIfInBounds_toArray, List.set_cons_zero, List.set_cons_succ, i64_w, i32_w]; rfl
                          refine pure_ (i := 10) (N := some 10) (v := ?_) (a' := ?_) #[true, true, true, true, true, true, true, true, true, true, true] rfl rfl (any_of HT_.out (by kernel_rfl)) (fun _ _ _ h => h) (Or.inl ⟨by rfl, ?_⟩) ?_ ?_; rotate_left
                          ·
                           intro w'; go_simp; with_reducible rfl
                          rotate_left
                          ·
                           simp only [Act.put, List.setIfInBounds_toArray, List.set_cons_zero, List.set_cons_succ, i64_w, i32_w]; rfl
                          refine done_ (done_of HT_.out (by kernel_rfl)) ?_
                          try go_wp2
                          go_roundg k4
                          case measure => have := HJ7.out; have := HK2.out; have := HK3.out; have := HK4.out; omega
                          case rel => exact ⟨((x6_4 ++ (⟨#[44, 32]⟩ : ByteArray)) ++ (((rdOf ByteArray.empty l1 (ji53)) ++ (⟨#[32, 62, 61, 32]⟩ : ByteArray)) ++ t248)), (wrap64 (x8_4 + 1)), (by first | rfl | (simp; done) | (simp only [← hji53] <;> (first | rfl | simp)) | (simp [*]; done)), (by first | rfl | (simp; done) | (simp [*]; done)), H', ⟨by have := HJ7.out; have := HK2.out; have := HK3.out; have := HK4.out; omega⟩, ⟨by (with_reducible repeat (first | refine blk_drewN ?_ _ | refine blk_drew ?_ | refine blk_alloc ?_ _)); exact BK238.out⟩, ⟨by repeat (first | (with_reducible first | exact HB.out | apply below_alloc | apply pw_below_drewN | apply below_drew1 | refine below_set ?_ GE238.out) | exact HB.out)⟩⟩
                         ·
                          rw [if_neg c65] at H; exact absurd H (by simp)
                        ·
                         rw [if_neg c64] at H; exact absurd H (by simp)
                      ·
                       rw [if_neg c58] at H; exact absurd H (by simp)
                     ·
                      rw [if_neg c56] at H; exact absurd H (by simp)
                    ·
                     rw [if_neg c55] at H; exact absurd H (by simp)
                   ·
                    rw [if_neg c54] at H; exact absurd H (by simp)
                  ·
                   rw [if_neg c52] at H; have c52b0 : (x7_3 == 0) = false := beq_eq_false_iff_ne.mpr c52; have c52b1 : (x7_3 != 0) = true := bne_iff_ne.mpr c52; obtain ⟨ji69, hji69⟩ : ∃ j_ : Int, (wrap64 (x7_3 - 1)) = j_ := ⟨_, rfl⟩; replace H : (if 0 ≤ (ji69) then (if (ji69) < (l1.length : Int) then (if (rdOf ByteArray.empty l1 (ji69)).size + 3 ≤ 9223372036854775807 then (if 0 ≤ (wrap64 (x8_4 - 1)) then (if (wrap64 (x8_4 - 1)) < (l1.length : Int) then (if (rdOf ByteArray.empty l1 (ji69)).size + 3 + (rdOf ByteArray.empty l1 (wrap64 (x8_4 - 1))).size ≤ 9223372036854775807 then (if (rdOf ByteArray.empty l1 (ji69)).size + 3 + (rdOf ByteArray.empty l1 (wrap64 (x8_4 - 1))).size + 4 ≤ 9223372036854775807 then ((spec_l01Digits.f k4 (rd l0_1 (ji29))).bind fun t251 => (if (rdOf ByteArray.empty l1 (ji69)).size + 3 + (rdOf ByteArray.empty l1 (wrap64 (x8_4 - 1))).size + 4 + t251.size ≤ 9223372036854775807 then (if x6_4.toList = ([] : List UInt8) then (if x6_4.size + (rdOf ByteArray.empty l1 (ji69)).size + 3 + (rdOf ByteArray.empty l1 (wrap64 (x8_4 - 1))).size + 4 + t251.size ≤ 9223372036854775807 then (spec_FactsText.l2 k4 l1 (x6_4 ++ (((((rdOf ByteArray.empty l1 (ji69)) ++ (⟨#[32, 45, 32]⟩ : ByteArray)) ++ (rdOf ByteArray.empty l1 (wrap64 (x8_4 - 1)))) ++ (⟨#[32, 60, 61, 32]⟩ : ByteArray)) ++ t251)) x7_3 (wrap64 (x8_4 + 1)) a0_0 l0_1) else (none)) else (if x6_4.size + 2 ≤ 9223372036854775807 then (if x6_4.size + 2 + (rdOf ByteArray.empty l1 (ji69)).size + 3 + (rdOf ByteArray.empty l1 (wrap64 (x8_4 - 1))).size + 4 + t251.size ≤ 9223372036854775807 then (spec_FactsText.l2 k4 l1 ((x6_4 ++ (⟨#[44, 32]⟩ : ByteArray)) ++ (((((rdOf ByteArray.empty l1 (ji69)) ++ (⟨#[32, 45, 32]⟩ : ByteArray)) ++ (rdOf ByteArray.empty l1 (wrap64 (x8_4 - 1)))) ++ (⟨#[32, 60, 61, 32]⟩ : ByteArray)) ++ t251)) x7_3 (wrap64 (x8_4 + 1)) a0_0 l0_1) else (none)) else (none))) else (none))) else (none)) else (none)) else (none)) else (none)) else (none)) else (none)) else (none)) = some r := by first | (rw [hji69] at H; exact H) | (simp only [hji69] at H ⊢; exact H)
                   (try rw [hji69] at A32)
                   have hji69w : (IntKind.i64.wrap (x7_3 - 1)) = ji69 := (i64_w _).trans hji69
                   by_cases c70 : 0 ≤ (ji69)
                   ·
                    rw [if_pos c70] at H; have c70b0 : decide (0 ≤ (ji69)) = true := decide_eq_true c70; clear c70
                    by_cases c71 : (ji69) < (l1.length : Int)
                    ·
                     rw [if_pos c71] at H; have c71b0 : decide ((ji69) < (l1.length : Int)) = true := decide_eq_true c71; clear c71
                     by_cases c72 : (rdOf ByteArray.empty l1 (ji69)).size + 3 ≤ 9223372036854775807
                     ·
                      rw [if_pos c72] at H; have c72b0 := eq_true c72; have c72b1 : decide ((rdOf ByteArray.empty l1 (ji69)).size + 3 ≤ 9223372036854775807) = true := decide_eq_true c72
                      try have c72b2 : (9223372036854775807 < (rdOf ByteArray.empty l1 (ji69)).size + 3) = False := eq_false (Nat.not_lt.2 c72)
                      obtain ⟨ji73, hji73⟩ : ∃ j_ : Int, (wrap64 (x8_4 - 1)) = j_ := ⟨_, rfl⟩; replace H : (if 0 ≤ (ji73) then (if (ji73) < (l1.length : Int) then (if (rdOf ByteArray.empty l1 (ji69)).size + 3 + (rdOf ByteArray.empty l1 (ji73)).size ≤ 9223372036854775807 then (if (rdOf ByteArray.empty l1 (ji69)).size + 3 + (rdOf ByteArray.empty l1 (ji73)).size + 4 ≤ 9223372036854775807 then ((spec_l01Digits.f k4 (rd l0_1 (ji29))).bind fun t251 => (if (rdOf ByteArray.empty l1 (ji69)).size + 3 + (rdOf ByteArray.empty l1 (ji73)).size + 4 + t251.size ≤ 9223372036854775807 then (if x6_4.toList = ([] : List UInt8) then (if x6_4.size + (rdOf ByteArray.empty l1 (ji69)).size + 3 + (rdOf ByteArray.empty l1 (ji73)).size + 4 + t251.size ≤ 9223372036854775807 then (spec_FactsText.l2 k4 l1 (x6_4 ++ (((((rdOf ByteArray.empty l1 (ji69)) ++ (⟨#[32, 45, 32]⟩ : ByteArray)) ++ (rdOf ByteArray.empty l1 (ji73))) ++ (⟨#[32, 60, 61, 32]⟩ : ByteArray)) ++ t251)) x7_3 (wrap64 (x8_4 + 1)) a0_0 l0_1) else (none)) else (if x6_4.size + 2 ≤ 9223372036854775807 then (if x6_4.size + 2 + (rdOf ByteArray.empty l1 (ji69)).size + 3 + (rdOf ByteArray.empty l1 (ji73)).size + 4 + t251.size ≤ 9223372036854775807 then (spec_FactsText.l2 k4 l1 ((x6_4 ++ (⟨#[44, 32]⟩ : ByteArray)) ++ (((((rdOf ByteArray.empty l1 (ji69)) ++ (⟨#[32, 45, 32]⟩ : ByteArray)) ++ (rdOf ByteArray.empty l1 (ji73))) ++ (⟨#[32, 60, 61, 32]⟩ : ByteArray)) ++ t251)) x7_3 (wrap64 (x8_4 + 1)) a0_0 l0_1) else (none)) else (none))) else (none))) else (none)) else (none)) else (none)) else (none)) = some r := by first | (rw [hji73] at H; exact H) | (simp only [hji73] at H ⊢; exact H)
                      (try rw [hji73] at A32)
                      have hji73w : (IntKind.i64.wrap (x8_4 - 1)) = ji73 := (i64_w _).trans hji73
                      by_cases c74 : 0 ≤ (ji73)
                      ·
                       rw [if_pos c74] at H; have c74b0 : decide (0 ≤ (ji73)) = true := decide_eq_true c74; clear c74
                       by_cases c75 : (ji73) < (l1.length : Int)
                       ·
                        rw [if_pos c75] at H; have c75b0 : decide ((ji73) < (l1.length : Int)) = true := decide_eq_true c75; clear c75
                        by_cases c76 : (rdOf ByteArray.empty l1 (ji69)).size + 3 + (rdOf ByteArray.empty l1 (ji73)).size ≤ 9223372036854775807
                        ·
                         rw [if_pos c76] at H; have c76b0 := eq_true c76; have c76b1 : decide ((rdOf ByteArray.empty l1 (ji69)).size + 3 + (rdOf ByteArray.empty l1 (ji73)).size ≤ 9223372036854775807) = true := decide_eq_true c76
                         try have c76b2 : (9223372036854775807 < (rdOf ByteArray.empty l1 (ji69)).size + 3 + (rdOf ByteArray.empty l1 (ji73)).size) = False := eq_false (Nat.not_lt.2 c76)
                         by_cases c77 : (rdOf ByteArray.empty l1 (ji69)).size + 3 + (rdOf ByteArray.empty l1 (ji73)).size + 4 ≤ 9223372036854775807
                         ·
                          rw [if_pos c77] at H; have c77b0 := eq_true c77; have c77b1 : decide ((rdOf ByteArray.empty l1 (ji69)).size + 3 + (rdOf ByteArray.empty l1 (ji73)).size + 4 ≤ 9223372036854775807) = true := decide_eq_true c77
                          try have c77b2 : (9223372036854775807 < (rdOf ByteArray.empty l1 (ji69)).size + 3 + (rdOf ByteArray.empty l1 (ji73)).size + 4) = False := eq_false (Nat.not_lt.2 c77)
                          replace H := Option.bind_eq_some_iff.mp H; obtain ⟨t251, A780, H⟩ := H; replace H : (if (rdOf ByteArray.empty l1 (ji69)).size + 3 + (rdOf ByteArray.empty l1 (ji73)).size + 4 + t251.size ≤ 9223372036854775807 then (if x6_4.toList = ([] : List UInt8) then (if x6_4.size + (rdOf ByteArray.empty l1 (ji69)).size + 3 + (rdOf ByteArray.empty l1 (ji73)).size + 4 + t251.size ≤ 9223372036854775807 then (spec_FactsText.l2 k4 l1 (x6_4 ++ (((((rdOf ByteArray.empty l1 (ji69)) ++ (⟨#[32, 45, 32]⟩ : ByteArray)) ++ (rdOf ByteArray.empty l1 (ji73))) ++ (⟨#[32, 60, 61, 32]⟩ : ByteArray)) ++ t251)) x7_3 (wrap64 (x8_4 + 1)) a0_0 l0_1) else (none)) else (if x6_4.size + 2 ≤ 9223372036854775807 then (if x6_4.size + 2 + (rdOf ByteArray.empty l1 (ji69)).size + 3 + (rdOf ByteArray.empty l1 (ji73)).size + 4 + t251.size ≤ 9223372036854775807 then (spec_FactsText.l2 k4 l1 ((x6_4 ++ (⟨#[44, 32]⟩ : ByteArray)) ++ (((((rdOf ByteArray.empty l1 (ji69)) ++ (⟨#[32, 45, 32]⟩ : ByteArray)) ++ (rdOf ByteArray.empty l1 (ji73))) ++ (⟨#[32, 60, 61, 32]⟩ : ByteArray)) ++ t251)) x7_3 (wrap64 (x8_4 + 1)) a0_0 l0_1) else (none)) else (none))) else (none)) = some r := H; have A78 := Aside0.mk A780; clear A780
                          by_cases c79 : (rdOf ByteArray.empty l1 (ji69)).size + 3 + (rdOf ByteArray.empty l1 (ji73)).size + 4 + t251.size ≤ 9223372036854775807
                          ·
                           rw [if_pos c79] at H; have c79b0 := eq_true c79; have c79b1 : decide ((rdOf ByteArray.empty l1 (ji69)).size + 3 + (rdOf ByteArray.empty l1 (ji73)).size + 4 + t251.size ≤ 9223372036854775807) = true := decide_eq_true c79
                           try have c79b2 : (9223372036854775807 < (rdOf ByteArray.empty l1 (ji69)).size + 3 + (rdOf ByteArray.empty l1 (ji73)).size + 4 + t251.size) = False := eq_false (Nat.not_lt.2 c79)
                           by_cases c80 : x6_4.toList = ([] : List UInt8)
                           ·
                            rw [if_pos c80] at H; have c80b0 : (x6_4.toList == ([] : List UInt8)) = true := beq_iff_eq.mpr c80; have c80b1 : (x6_4.toList != ([] : List UInt8)) = false := bne_eq_false_iff_eq.mpr c80
                            (try (have c80b2 : x6_4.toList.isEmpty = true := by rw [c80]; rfl))
                            clear c80
                            by_cases c81 : x6_4.size + (rdOf ByteArray.empty l1 (ji69)).size + 3 + (rdOf ByteArray.empty l1 (ji73)).size + 4 + t251.size ≤ 9223372036854775807
                            ·
                             rw [if_pos c81] at H; have c81b0 := eq_true c81; have c81b1 : decide (x6_4.size + (rdOf ByteArray.empty l1 (ji69)).size + 3 + (rdOf ByteArray.empty l1 (ji73)).size + 4 + t251.size ≤ 9223372036854775807) = true := decide_eq_true c81
                             try have c81b2 : (9223372036854775807 < x6_4.size + (rdOf ByteArray.empty l1 (ji69)).size + 3 + (rdOf ByteArray.empty l1 (ji73)).size + 4 + t251.size) = False := eq_false (Nat.not_lt.2 c81)
                             have H' := Aside0.mk H; clear H; have hcz82_0 : wr.cell? ⟨gb238, 0, none⟩ = some (.int .i64 a0_0) := (blk_cell BK238.out 0).trans rfl; have hcz82_1 : wr.cell? ⟨gb238, 1, none⟩ = some (.slice A0_1 l0_1.length c0_1) := (blk_cell BK238.out 1).trans rfl; have hfz82_0 := blk_frozen BK238.out 0; have hfz82_1 := blk_frozen BK238.out 1; have p243 : 0 ≤ ((ji29) : Int) := of_decide_eq_true (by first | (with_reducible assumption) | assumption); have q243 : (ji29) < (l0_1.length : Int) := of_decide_eq_true (by first | (with_reducible assumption) | assumption); obtain ⟨ad243, e243, hx243_0⟩ := Kd.at_int HR0_1.out (ji29) p243 q243; cases e243; replace hx243_0 := (HB.out.cell (World.block_lt_of_cell? w _ hx243_0)).trans hx243_0; replace p243 := eq_true p243; replace q243 := eq_true q243
                             try go_wp2_with (first | ((with_reducible refine gate_callee (f := 49) rfl ?_); refine goesL_ (some 61) rfl rfl Tryd.func49 (by kernel_rfl) rfl #[.int .i64 x7_3, .int .i64 x8_4] rfl (by (try simp only [List.map_toArray, List.map_cons, List.map_nil]); first | done | rfl | (simp only [List.length_drop, List.length_take]; rfl)) ?_; (with_reducible refine (spec_l07Cap.calls x7_3 x8_4 t244 _ A32.out).mono ?_); rintro e w' ⟨rfl, ⟨nd, rfl⟩⟩; refine ⟨_, rfl, ?_⟩))
                             (try (rw [drewN_self wr]; generalize hq_ : World.drewN wr _ = wr; have n0_ : Aside0 (wr.heap[gb238]? = some (.cells #[.int .i64 a0_0, .slice (some ad243) l0_1.length c0_1] 37 (0, 0))) := ⟨by rw [← hq_]; exact (by (with_reducible repeat (first | refine blk_drewN ?_ _ | refine blk_drew ?_ | refine blk_alloc ?_ _)); exact BK238.out)⟩; have n1_ : Aside0 (Below w.heap.size w wr) := ⟨by rw [← hq_]; exact (by repeat (first | (with_reducible first | exact HB.out | apply below_alloc | apply pw_below_drewN | apply below_drew1 | refine below_set ?_ GE238.out) | exact HB.out))⟩; clear BK238 HB hq_; have BK238 := n0_; have HB := n1_; clear n0_ n1_))
                             have n0_ := Aside0.mk (blk_drew BK238.out); have n1_ := Aside0.mk (below_drew1 HB.out); clear BK238 HB; have BK238 := n0_; have HB := n1_; clear n0_ n1_; have p249 : 0 ≤ ((ji69) : Int) := of_decide_eq_true (by first | (with_reducible assumption) | assumption); have q249 : (ji69) < (l1.length : Int) := of_decide_eq_true (by first | (with_reducible assumption) | assumption); obtain ⟨ad249, e249, hx249_0⟩ := Kd.at_string HR1.out (ji69) p249 q249; have hw249_0 := hx249_0; cases e249; replace hx249_0 := (HB.out.cell (World.block_lt_of_cell? w _ hx249_0)).trans hx249_0; replace p249 := eq_true p249; replace q249 := eq_true q249; have p250 : 0 ≤ ((ji73) : Int) := of_decide_eq_true (by first | (with_reducible assumption) | assumption); have q250 : (ji73) < (l1.length : Int) := of_decide_eq_true (by first | (with_reducible assumption) | assumption); obtain ⟨ad250, e250, hx250_0⟩ := Kd.at_string HR1.out (ji73) p250 q250; have hw250_0 := hx250_0; obtain rfl : ad249 = ad250 := (by injection e250); replace hx250_0 := (HB.out.cell (World.block_lt_of_cell? w _ hx250_0)).trans hx250_0; replace p250 := eq_true p250; replace q250 := eq_true q250; refine start_ (n := 17) (S := fun w' => w'.cell? (ad249.add ((ji69)).toNat) = some (.string (rdOf ByteArray.empty l1 (ji69))) ∧ w'.cell? (ad249.add ((ji73)).toNat) = some (.string (rdOf ByteArray.empty l1 (ji73)))) (ds := []) #[false, false, false, false, false, false, false, false, false, false, false, false, false, false, false, false, false] (by kernel_rfl) rfl rfl ⟨((HB.out.cell (World.block_lt_of_cell? w _ hw249_0)).trans hw249_0), ((HB.out.cell (World.block_lt_of_cell? w _ hw250_0)).trans hw250_0)⟩ (fun hHeld => ?_); refine with_tabW spec_FactsText.tab20 spec_FactsText.bits20 (fun HT_ HW_ => ?_); generalize wr.drew = w83 at BK238 HB hx249_0 hx250_0 hHeld ⊢; refine pure_ (i := 0) (N := some 63) (v := ?_) (a' := ?_) #[true, false, false, false, false, false, false, false, false, false, false, false, false, false, false, false, false] rfl rfl (any_of HT_.out (by kernel_rfl)) (fun _ _ _ h => h) (Or.inl ⟨by rfl, ?_⟩) ?_ ?_; rotate_left
                             ·
                              intro w'; go_simp; with_reducible rfl
                             rotate_left
                             ·
                              simp only [Act.put, List.setIfInBounds_toArray, List.set_cons_zero, List.set_cons_succ, i64_w, i32_w]; rfl
                             refine pure_ (i := 1) (N := some 64) (v := ?_) (a' := ?_) #[true, true, false, false, false, false, false, false, false, false, false, false, false, false, false, false, false] rfl rfl (any_of HT_.out (by kernel_rfl)) (fun _ _ _ h => h) (Or.inl ⟨by rfl, ?_⟩) ?_ ?_; rotate_left
                             ·
                              intro w'; go_simp; with_reducible rfl
                             rotate_left
                             ·
                              simp only [Act.put, List.setIfInBounds_toArray, List.set_cons_zero, List.set_cons_succ, i64_w, i32_w]; rfl
                             refine pure_ (i := 2) (N := some 65) (v := ?_) (a' := ?_) #[true, true, true, false, false, false, false, false, false, false, false, false, false, false, false, false, false] rfl rfl (any_of HT_.out (by kernel_rfl)) (fun _ _ _ h => h) (Or.inl ⟨by rfl, ?_⟩) ?_ ?_; rotate_left
                             ·
                              intro w'; go_simp; with_reducible rfl
                             rotate_left
                             ·
                              simp only [Act.put, List.setIfInBounds_toArray, List.set_cons_zero, List.set_cons_succ, i64_w, i32_w]; rfl
                             refine pure_ (i := 3) (N := some 66) (v := ?_) (a' := ?_) #[true, true, true, true, false, false, false, false, false, false, false, false, false, false, false, false, false] rfl rfl (any_of HT_.out (by kernel_rfl)) (fun _ _ _ h => h) (Or.inl ⟨by rfl, ?_⟩) ?_ ?_; rotate_left
                             ·
                              intro w'; go_simp; with_reducible rfl
                             rotate_left
                             ·
                              simp only [Act.put, List.setIfInBounds_toArray, List.set_cons_zero, List.set_cons_succ, i64_w, i32_w]; rfl
                             refine pure_ (i := 6) (N := some 69) (v := ?_) (a' := ?_) #[true, true, true, true, false, false, true, false, false, false, false, false, false, false, false, false, false] rfl rfl (any_of HT_.out (by kernel_rfl)) (fun _ _ _ h => h) (Or.inl ⟨by rfl, ?_⟩) ?_ ?_; rotate_left
                             ·
                              intro w'; go_simp; with_reducible rfl
                             rotate_left
                             ·
                              simp only [Act.put, List.setIfInBounds_toArray, List.set_cons_zero, List.set_cons_succ, i64_w, i32_w]; rfl
                             refine pure_ (i := 7) (N := some 70) (v := ?_) (a' := ?_) #[true, true, true, true, false, false, true, true, false, false, false, false, false, false, false, false, false] rfl rfl (any_of HT_.out (by kernel_rfl)) (fun _ _ _ h => h) (Or.inl ⟨by rfl, ?_⟩) ?_ ?_; rotate_left
                             ·
                              intro w'; go_simp; with_reducible rfl
                             rotate_left
                             ·
                              simp only [Act.put, List.setIfInBounds_toArray, List.set_cons_zero, List.set_cons_succ, i64_w, i32_w]; rfl
                             refine pure_ (i := 8) (N := some 71) (v := ?_) (a' := ?_) #[true, true, true, true, false, false, true, true, true, false, false, false, false, false, false, false, false] rfl rfl (any_of HT_.out (by kernel_rfl)) (fun _ _ _ h => h) (Or.inl ⟨by rfl, ?_⟩) ?_ ?_; rotate_left
                             ·
                              intro w'; go_simp; with_reducible rfl
                             rotate_left
                             ·
                              simp only [Act.put, List.setIfInBounds_toArray, List.set_cons_zero, List.set_cons_succ, i64_w, i32_w]; rfl
                             refine pure_ (i := 9) (N := some 72) (v := ?_) (a' := ?_) #[true, true, true, true, false, false, true, true, true, true, false, false, false, false, false, false, false] rfl rfl (any_of HT_.out (by kernel_rfl)) (fun _ _ _ h => h) (Or.inl ⟨by rfl, ?_⟩) ?_ ?_; rotate_left
                             ·
                              intro w'; go_simp; with_reducible rfl
                             rotate_left
                             ·
                              simp only [Act.put, List.setIfInBounds_toArray, List.set_cons_zero, List.set_cons_succ, i64_w, i32_w]; rfl
                             refine pure_ (i := 13) (N := some 76) (v := ?_) (a' := ?_) #[true, true, true, true, false, false, true, true, true, true, false, false, false, true, false, false, false] rfl rfl (any_of HT_.out (by kernel_rfl)) (fun _ _ _ h => h) (Or.inl ⟨by rfl, ?_⟩) ?_ ?_; rotate_left
                             ·
                              intro w'; go_simp; with_reducible rfl
                             rotate_left
                             ·
                              simp only [Act.put, List.setIfInBounds_toArray, List.set_cons_zero, List.set_cons_succ, i64_w, i32_w]; rfl
                             refine take_ (i := 4) (N := some 67) (v := ?_) (a' := ?_) #[true, true, true, true, true, false, true, true, true, true, false, false, false, true, false, false, false] rfl rfl (take_ofW HT_.out HW_.out (by kernel_rfl)) (fun _ _ _ h => h) (Or.inl ⟨by rfl, ?_⟩) hHeld ?_ ?_; rotate_left
                             ·
                              rintro w' ⟨s0, s1⟩; go_simp; with_reducible rfl
                             rotate_left
                             ·
                              simp only [Act.put, List.setIfInBounds_toArray, List.set_cons_zero, List.set_cons_succ, i64_w, i32_w]; rfl
                             refine pure_ (i := 5) (N := some 68) (v := ?_) (a' := ?_) #[true, true, true, true, true, true, true, true, true, true, false, false, false, true, false, false, false] rfl rfl (any_of HT_.out (by kernel_rfl)) (fun _ _ _ h => h) (Or.inl ⟨by rfl, ?_⟩) ?_ ?_; rotate_left
                             ·
                              intro w'; go_simp; with_reducible rfl
                             rotate_left
                             ·
                              simp only [Act.put, List.setIfInBounds_toArray, List.set_cons_zero, List.set_cons_succ, i64_w, i32_w]; rfl
                             refine take_ (i := 10) (N := some 73) (v := ?_) (a' := ?_) #[true, true, true, true, true, true, true, true, true, true, true, false, false, true, false, false, false] rfl rfl (take_ofW HT_.out HW_.out (by kernel_rfl)) (fun _ _ _ h => h) (Or.inl ⟨by rfl, ?_⟩) hHeld ?_ ?_; rotate_left
                             ·
                              rintro w' ⟨s0, s1⟩; go_simp; with_reducible rfl
                             rotate_left
                             ·
                              simp only [Act.put, List.setIfInBounds_toArray, List.set_cons_zero, List.set_cons_succ, i64_w, i32_w]; rfl
                             refine pure_ (i := 11) (N := some 74) (v := ?_) (a' := ?_) #[true, true, true, true, true, true, true, true, true, true, true, true, false, true, false, false, false] rfl rfl (any_of HT_.out (by kernel_rfl)) (fun _ _ _ h => h) (Or.inl ⟨by rfl, ?_⟩) ?_ ?_; rotate_left
                             ·
                              intro w'; go_simp; with_reducible rfl
                             rotate_left
                             ·
                              simp only [Act.put, List.setIfInBounds_toArray, List.set_cons_zero, List.set_cons_succ, i64_w, i32_w]; rfl
                             refine pure_ (i := 12) (N := some 75) (v := ?_) (a' := ?_) #[true, true, true, true, true, true, true, true, true, true, true, true, true, true, false, false, false] rfl rfl (any_of HT_.out (by kernel_rfl)) (fun _ _ _ h => h) (Or.inl ⟨by rfl, ?_⟩) ?_ ?_; rotate_left
                             ·
                              intro w'; go_simp; with_reducible rfl
                             rotate_left
                             ·
                              simp only [Act.put, List.setIfInBounds_toArray, List.set_cons_zero, List.set_cons_succ, i64_w, i32_w]; rfl
                             refine one_ (i := 14) (N := some 77) #[true, true, true, true, true, true, true, true, true, true, true, true, true, true, true, false, false] rfl rfl (one_of HT_.out (by kernel_rfl)) (by decide) (fun K hK => ?_); refine goes_ Tryd.func50 (by kernel_rfl) rfl #[.int .i64 (rd l0_1 (ji29))] (by rfl) rfl rfl (by (try simp only [List.map_toArray, List.map_cons, List.map_nil]); first | done | (simp only [hji29]; rfl) | rfl | (simp only [List.length_drop, List.length_take]; rfl)) ?_; with_reducible refine (spec_l01Digits.calls k4 (rd l0_1 (ji29)) t251 _ A78.out).mono ?_
                             rintro e w84 ⟨rfl, hb⟩; refine ⟨_, rfl, ?_⟩; have n0_ := Aside0.mk (blk_below (g := gb238) (o := .cells #[.int .i64 a0_0, .slice (some ad243) l0_1.length c0_1] 37 (0, 0)) (by (with_reducible repeat (first | refine blk_drewN ?_ _ | refine blk_drew ?_ | refine blk_alloc ?_ _)); exact BK238.out) hb); have n1_ := Aside0.mk (below_step (by repeat (first | (with_reducible first | exact HB.out | apply below_alloc | apply pw_below_drewN | apply below_drew1 | refine below_set ?_ GE238.out) | exact HB.out)) hb); clear BK238 HB; have BK238 := n0_; have HB := n1_; clear n0_ n1_
                             (try clear hb)
                             (try clear hb2)
                             (try clear hk)
                             (try clear hi)
                             refine hK.out _ _ ⟨((HB.out.cell (World.block_lt_of_cell? w _ hw249_0)).trans hw249_0), ((HB.out.cell (World.block_lt_of_cell? w _ hw250_0)).trans hw250_0)⟩ (fun hHeld => ?_); clear hK K; refine norm_ (a' := ?_) ?_ ?_; rotate_left
                             ·
                              show Act.put _ (some 77) _ = _; simp only [Act.put, List.setIfInBounds_toArray, List.set_cons_zero, List.set_cons_succ, i64_w, i32_w]; rfl
                             refine pure_ (i := 15) (N := some 78) (v := ?_) (a' := ?_) #[true, true, true, true, true, true, true, true, true, true, true, true, true, true, true, true, false] rfl rfl (any_of HT_.out (by kernel_rfl)) (fun _ _ _ h => h) (Or.inl ⟨by rfl, ?_⟩) ?_ ?_; rotate_left
                             ·
                              intro w'; go_simp; with_reducible rfl
                             rotate_left
                             ·
                              simp only [Act.put, List.setIfInBounds_toArray, List.set_cons_zero, List.set_cons_succ, i64_w, i32_w]; rfl
                             refine pure_ (i := 16) (N := some 10) (v := ?_) (a' := ?_) #[true, true, true, true, true, true, true, true, true, true, true, true, true, true, true, true, true] rfl rfl (any_of HT_.out (by kernel_rfl)) (fun _ _ _ h => h) (Or.inl ⟨by rfl, ?_⟩) ?_ ?_; rotate_left
                             ·
                              intro w'; go_simp; with_reducible rfl
                             rotate_left
                             ·
                              simp only [Act.put, List.setIfInBounds_toArray, List.set_cons_zero, List.set_cons_succ, i64_w, i32_w]; rfl
                             refine done_ (done_of HT_.out (by kernel_rfl)) ?_
                             try go_wp2
                             go_roundg k4
                             case measure => have := HJ7.out; have := HK2.out; have := HK3.out; have := HK4.out; omega
                             case rel => exact ⟨(x6_4 ++ (((((rdOf ByteArray.empty l1 (ji69)) ++ (⟨#[32, 45, 32]⟩ : ByteArray)) ++ (rdOf ByteArray.empty l1 (ji73))) ++ (⟨#[32, 60, 61, 32]⟩ : ByteArray)) ++ t251)), (wrap64 (x8_4 + 1)), (by first | rfl | (simp; done) | (simp only [← hji69, ← hji73] <;> (first | rfl | simp)) | (simp [*]; done)), (by first | rfl | (simp; done) | (simp [*]; done)), H', ⟨by have := HJ7.out; have := HK2.out; have := HK3.out; have := HK4.out; omega⟩, ⟨by (with_reducible repeat (first | refine blk_drewN ?_ _ | refine blk_drew ?_ | refine blk_alloc ?_ _)); exact BK238.out⟩, ⟨by repeat (first | (with_reducible first | exact HB.out | apply below_alloc | apply pw_below_drewN | apply below_drew1 | refine below_set ?_ GE238.out) | exact HB.out)⟩⟩
                            ·
                             rw [if_neg c81] at H; exact absurd H (by simp)
                           ·
                            rw [if_neg c80] at H; have c80b0 : (x6_4.toList == ([] : List UInt8)) = false := beq_eq_false_iff_ne.mpr c80; have c80b1 : (x6_4.toList != ([] : List UInt8)) = true := bne_iff_ne.mpr c80
                            (try (have c80b2 : x6_4.toList.isEmpty = false := List.isEmpty_eq_false_iff.mpr c80))
                            by_cases c85 : x6_4.size + 2 ≤ 9223372036854775807
                            ·
                             rw [if_pos c85] at H; have c85b0 := eq_true c85; have c85b1 : decide (x6_4.size + 2 ≤ 9223372036854775807) = true := decide_eq_true c85
                             try have c85b2 : (9223372036854775807 < x6_4.size + 2) = False := eq_false (Nat.not_lt.2 c85)
                             by_cases c86 : x6_4.size + 2 + (rdOf ByteArray.empty l1 (ji69)).size + 3 + (rdOf ByteArray.empty l1 (ji73)).size + 4 + t251.size ≤ 9223372036854775807
                             ·
                              rw [if_pos c86] at H; have c86b0 := eq_true c86; have c86b1 : decide (x6_4.size + 2 + (rdOf ByteArray.empty l1 (ji69)).size + 3 + (rdOf ByteArray.empty l1 (ji73)).size + 4 + t251.size ≤ 9223372036854775807) = true := decide_eq_true c86
                              try have c86b2 : (9223372036854775807 < x6_4.size + 2 + (rdOf ByteArray.empty l1 (ji69)).size + 3 + (rdOf ByteArray.empty l1 (ji73)).size + 4 + t251.size) = False := eq_false (Nat.not_lt.2 c86)
                              have H' := Aside0.mk H; clear H; have hcz87_0 : wr.cell? ⟨gb238, 0, none⟩ = some (.int .i64 a0_0) := (blk_cell BK238.out 0).trans rfl; have hcz87_1 : wr.cell? ⟨gb238, 1, none⟩ = some (.slice A0_1 l0_1.length c0_1) := (blk_cell BK238.out 1).trans rfl; have hfz87_0 := blk_frozen BK238.out 0; have hfz87_1 := blk_frozen BK238.out 1; have p243 : 0 ≤ ((ji29) : Int) := of_decide_eq_true (by first | (with_reducible assumption) | assumption); have q243 : (ji29) < (l0_1.length : Int) := of_decide_eq_true (by first | (with_reducible assumption) | assumption); obtain ⟨ad243, e243, hx243_0⟩ := Kd.at_int HR0_1.out (ji29) p243 q243; cases e243; replace hx243_0 := (HB.out.cell (World.block_lt_of_cell? w _ hx243_0)).trans hx243_0; replace p243 := eq_true p243; replace q243 := eq_true q243
                              try go_wp2_with (first | ((with_reducible refine gate_callee (f := 49) rfl ?_); refine goesL_ (some 61) rfl rfl Tryd.func49 (by kernel_rfl) rfl #[.int .i64 x7_3, .int .i64 x8_4] rfl (by (try simp only [List.map_toArray, List.map_cons, List.map_nil]); first | done | rfl | (simp only [List.length_drop, List.length_take]; rfl)) ?_; (with_reducible refine (spec_l07Cap.calls x7_3 x8_4 t244 _ A32.out).mono ?_); rintro e w' ⟨rfl, ⟨nd, rfl⟩⟩; refine ⟨_, rfl, ?_⟩))
                              (try (rw [drewN_self wr]; generalize hq_ : World.drewN wr _ = wr; have n0_ : Aside0 (wr.heap[gb238]? = some (.cells #[.int .i64 a0_0, .slice (some ad243) l0_1.length c0_1] 37 (0, 0))) := ⟨by rw [← hq_]; exact (by (with_reducible repeat (first | refine blk_drewN ?_ _ | refine blk_drew ?_ | refine blk_alloc ?_ _)); exact BK238.out)⟩; have n1_ : Aside0 (Below w.heap.size w wr) := ⟨by rw [← hq_]; exact (by repeat (first | (with_reducible first | exact HB.out | apply below_alloc | apply pw_below_drewN | apply below_drew1 | refine below_set ?_ GE238.out) | exact HB.out))⟩; clear BK238 HB hq_; have BK238 := n0_; have HB := n1_; clear n0_ n1_))
                              have n0_ := Aside0.mk (blk_drew BK238.out); have n1_ := Aside0.mk (below_drew1 HB.out); clear BK238 HB; have BK238 := n0_; have HB := n1_; clear n0_ n1_; have p249 : 0 ≤ ((ji69) : Int) := of_decide_eq_true (by first | (with_reducible assumption) | assumption); have q249 : (ji69) < (l1.length : Int) := of_decide_eq_true (by first | (with_reducible assumption) | assumption); obtain ⟨ad249, e249, hx249_0⟩ := Kd.at_string HR1.out (ji69) p249 q249; have hw249_0 := hx249_0; cases e249; replace hx249_0 := (HB.out.cell (World.block_lt_of_cell? w _ hx249_0)).trans hx249_0; replace p249 := eq_true p249; replace q249 := eq_true q249; have p250 : 0 ≤ ((ji73) : Int) := of_decide_eq_true (by first | (with_reducible assumption) | assumption); have q250 : (ji73) < (l1.length : Int) := of_decide_eq_true (by first | (with_reducible assumption) | assumption); obtain ⟨ad250, e250, hx250_0⟩ := Kd.at_string HR1.out (ji73) p250 q250; have hw250_0 := hx250_0; obtain rfl : ad249 = ad250 := (by injection e250); replace hx250_0 := (HB.out.cell (World.block_lt_of_cell? w _ hx250_0)).trans hx250_0; replace p250 := eq_true p250; replace q250 := eq_true q250; refine start_ (n := 17) (S := fun w' => w'.cell? (ad249.add ((ji69)).toNat) = some (.string (rdOf ByteArray.empty l1 (ji69))) ∧ w'.cell? (ad249.add ((ji73)).toNat) = some (.string (rdOf ByteArray.empty l1 (ji73)))) (ds := []) #[false, false, false, false, false, false, false, false, false, false, false, false, false, false, false, false, false] (by kernel_rfl) rfl rfl ⟨((HB.out.cell (World.block_lt_of_cell? w _ hw249_0)).trans hw249_0), ((HB.out.cell (World.block_lt_of_cell? w _ hw250_0)).trans hw250_0)⟩ (fun hHeld => ?_); refine with_tabW spec_FactsText.tab20 spec_FactsText.bits20 (fun HT_ HW_ => ?_); generalize wr.drew = w88 at BK238 HB hx249_0 hx250_0 hHeld ⊢; refine pure_ (i := 0) (N := some 63) (v := ?_) (a' := ?_) #[true, false, false, false, false, false, false, false, false, false, false, false, false, false, false, false, false] rfl rfl (any_of HT_.out (by kernel_rfl)) (fun _ _ _ h => h) (Or.inl ⟨by rfl, ?_⟩) ?_ ?_; rotate_left
                              ·
                               intro w'; go_simp; with_reducible rfl
                              rotate_left
                              ·
                               simp only [Act.put, List.setIfInBounds_toArray, List.set_cons_zero, List.set_cons_succ, i64_w, i32_w]; rfl
                              refine pure_ (i := 1) (N := some 64) (v := ?_) (a' := ?_) #[true, true, false, false, false, false, false, false, false, false, false, false, false, false, false, false, false] rfl rfl (any_of HT_.out (by kernel_rfl)) (fun _ _ _ h => h) (Or.inl ⟨by rfl, ?_⟩) ?_ ?_; rotate_left
                              ·
                               intro w'; go_simp; with_reducible rfl
                              rotate_left
                              ·
                               simp only [Act.put, List.setIfInBounds_toArray, List.set_cons_zero, List.set_cons_succ, i64_w, i32_w]; rfl
                              refine pure_ (i := 2) (N := some 65) (v := ?_) (a' := ?_) #[true, true, true, false, false, false, false, false, false, false, false, false, false, false, false, false, false] rfl rfl (any_of HT_.out (by kernel_rfl)) (fun _ _ _ h => h) (Or.inl ⟨by rfl, ?_⟩) ?_ ?_; rotate_left
                              ·
                               intro w'; go_simp; with_reducible rfl
                              rotate_left
                              ·
                               simp only [Act.put, List.setIfInBounds_toArray, List.set_cons_zero, List.set_cons_succ, i64_w, i32_w]; rfl
                              refine pure_ (i := 3) (N := some 66) (v := ?_) (a' := ?_) #[true, true, true, true, false, false, false, false, false, false, false, false, false, false, false, false, false] rfl rfl (any_of HT_.out (by kernel_rfl)) (fun _ _ _ h => h) (Or.inl ⟨by rfl, ?_⟩) ?_ ?_; rotate_left
                              ·
                               intro w'; go_simp; with_reducible rfl
                              rotate_left
                              ·
                               simp only [Act.put, List.setIfInBounds_toArray, List.set_cons_zero, List.set_cons_succ, i64_w, i32_w]; rfl
                              refine pure_ (i := 6) (N := some 69) (v := ?_) (a' := ?_) #[true, true, true, true, false, false, true, false, false, false, false, false, false, false, false, false, false] rfl rfl (any_of HT_.out (by kernel_rfl)) (fun _ _ _ h => h) (Or.inl ⟨by rfl, ?_⟩) ?_ ?_; rotate_left
                              ·
                               intro w'; go_simp; with_reducible rfl
                              rotate_left
                              ·
                               simp only [Act.put, List.setIfInBounds_toArray, List.set_cons_zero, List.set_cons_succ, i64_w, i32_w]; rfl
                              refine pure_ (i := 7) (N := some 70) (v := ?_) (a' := ?_) #[true, true, true, true, false, false, true, true, false, false, false, false, false, false, false, false, false] rfl rfl (any_of HT_.out (by kernel_rfl)) (fun _ _ _ h => h) (Or.inl ⟨by rfl, ?_⟩) ?_ ?_; rotate_left
                              ·
                               intro w'; go_simp; with_reducible rfl
                              rotate_left
                              ·
                               simp only [Act.put, List.setIfInBounds_toArray, List.set_cons_zero, List.set_cons_succ, i64_w, i32_w]; rfl
                              refine pure_ (i := 8) (N := some 71) (v := ?_) (a' := ?_) #[true, true, true, true, false, false, true, true, true, false, false, false, false, false, false, false, false] rfl rfl (any_of HT_.out (by kernel_rfl)) (fun _ _ _ h => h) (Or.inl ⟨by rfl, ?_⟩) ?_ ?_; rotate_left
                              ·
                               intro w'; go_simp; with_reducible rfl
                              rotate_left
                              ·
                               simp only [Act.put, List.setIfInBounds_toArray, List.set_cons_zero, List.set_cons_succ, i64_w, i32_w]; rfl
                              refine pure_ (i := 9) (N := some 72) (v := ?_) (a' := ?_) #[true, true, true, true, false, false, true, true, true, true, false, false, false, false, false, false, false] rfl rfl (any_of HT_.out (by kernel_rfl)) (fun _ _ _ h => h) (Or.inl ⟨by rfl, ?_⟩) ?_ ?_; rotate_left
                              ·
                               intro w'; go_simp; with_reducible rfl
                              rotate_left
                              ·
                               simp only [Act.put, List.setIfInBounds_toArray, List.set_cons_zero, List.set_cons_succ, i64_w, i32_w]; rfl
                              refine pure_ (i := 13) (N := some 76) (v := ?_) (a' := ?_) #[true, true, true, true, false, false, true, true, true, true, false, false, false, true, false, false, false] rfl rfl (any_of HT_.out (by kernel_rfl)) (fun _ _ _ h => h) (Or.inl ⟨by rfl, ?_⟩) ?_ ?_; rotate_left
                              ·
                               intro w'; go_simp; with_reducible rfl
                              rotate_left
                              ·
                               simp only [Act.put, List.setIfInBounds_toArray, List.set_cons_zero, List.set_cons_succ, i64_w, i32_w]; rfl
                              refine take_ (i := 4) (N := some 67) (v := ?_) (a' := ?_) #[true, true, true, true, true, false, true, true, true, true, false, false, false, true, false, false, false] rfl rfl (take_ofW HT_.out HW_.out (by kernel_rfl)) (fun _ _ _ h => h) (Or.inl ⟨by rfl, ?_⟩) hHeld ?_ ?_; rotate_left
                              ·
                               rintro w' ⟨s0, s1⟩; go_simp; with_reducible rfl
                              rotate_left
                              ·
                               simp only [Act.put, List.setIfInBounds_toArray, List.set_cons_zero, List.set_cons_succ, i64_w, i32_w]; rfl
                              refine pure_ (i := 5) (N := some 68) (v := ?_) (a' := ?_) #[true, true, true, true, true, true, true, true, true, true, false, false, false, true, false, false, false] rfl rfl (any_of HT_.out (by kernel_rfl)) (fun _ _ _ h => h) (Or.inl ⟨by rfl, ?_⟩) ?_ ?_; rotate_left
                              ·
                               intro w'; go_simp; with_reducible rfl
                              rotate_left
                              ·
                               simp only [Act.put, List.setIfInBounds_toArray, List.set_cons_zero, List.set_cons_succ, i64_w, i32_w]; rfl
                              refine take_ (i := 10) (N := some 73) (v := ?_) (a' := ?_) #[true, true, true, true, true, true, true, true, true, true, true, false, false, true, false, false, false] rfl rfl (take_ofW HT_.out HW_.out (by kernel_rfl)) (fun _ _ _ h => h) (Or.inl ⟨by rfl, ?_⟩) hHeld ?_ ?_; rotate_left
                              ·
                               rintro w' ⟨s0, s1⟩; go_simp; with_reducible rfl
                              rotate_left
                              ·
                               simp only [Act.put, List.setIfInBounds_toArray, List.set_cons_zero, List.set_cons_succ, i64_w, i32_w]; rfl
                              refine pure_ (i := 11) (N := some 74) (v := ?_) (a' := ?_) #[true, true, true, true, true, true, true, true, true, true, true, true, false, true, false, false, false] rfl rfl (any_of HT_.out (by kernel_rfl)) (fun _ _ _ h => h) (Or.inl ⟨by rfl, ?_⟩) ?_ ?_; rotate_left
                              ·
                               intro w'; go_simp; with_reducible rfl
                              rotate_left
                              ·
                               simp only [Act.put, List.setIfInBounds_toArray, List.set_cons_zero, List.set_cons_succ, i64_w, i32_w]; rfl
                              refine pure_ (i := 12) (N := some 75) (v := ?_) (a' := ?_) #[true, true, true, true, true, true, true, true, true, true, true, true, true, true, false, false, false] rfl rfl (any_of HT_.out (by kernel_rfl)) (fun _ _ _ h => h) (Or.inl ⟨by rfl, ?_⟩) ?_ ?_; rotate_left
                              ·
                               intro w'; go_simp; with_reducible rfl
                              rotate_left
                              ·
                               simp only [Act.put, List.setIfInBounds_toArray, List.set_cons_zero, List.set_cons_succ, i64_w, i32_w]; rfl
                              refine one_ (i := 14) (N := some 77) #[true, true, true, true, true, true, true, true, true, true, true, true, true, true, true, false, false] rfl rfl (one_of HT_.out (by kernel_rfl)) (by decide) (fun K hK => ?_); refine goes_ Tryd.func50 (by kernel_rfl) rfl #[.int .i64 (rd l0_1 (ji29))] (by rfl) rfl rfl (by (try simp only [List.map_toArray, List.map_cons, List.map_nil]); first | done | (simp only [hji29]; rfl) | rfl | (simp only [List.length_drop, List.length_take]; rfl)) ?_; with_reducible refine (spec_l01Digits.calls k4 (rd l0_1 (ji29)) t251 _ A78.out).mono ?_
                              rintro e w89 ⟨rfl, hb⟩; refine ⟨_, rfl, ?_⟩; have n0_ := Aside0.mk (blk_below (g := gb238) (o := .cells #[.int .i64 a0_0, .slice (some ad243) l0_1.length c0_1] 37 (0, 0)) (by (with_reducible repeat (first | refine blk_drewN ?_ _ | refine blk_drew ?_ | refine blk_alloc ?_ _)); exact BK238.out) hb); have n1_ := Aside0.mk (below_step (by repeat (first | (with_reducible first | exact HB.out | apply below_alloc | apply pw_below_drewN | apply below_drew1 | refine below_set ?_ GE238.out) | exact HB.out)) hb); clear BK238 HB; have BK238 := n0_; have HB := n1_; clear n0_ n1_
                              (try clear hb)
                              (try clear hb2)
                              (try clear hk)
                              (try clear hi)
                              refine hK.out _ _ ⟨((HB.out.cell (World.block_lt_of_cell? w _ hw249_0)).trans hw249_0), ((HB.out.cell (World.block_lt_of_cell? w _ hw250_0)).trans hw250_0)⟩ (fun hHeld => ?_); clear hK K; refine norm_ (a' := ?_) ?_ ?_; rotate_left
                              ·
                               show Act.put _ (some 77) _ = _; simp only [Act.put, List.setIfInBounds_toArray, List.set_cons_zero, List.set_cons_succ, i64_w, i32_w]; rfl
                              refine pure_ (i := 15) (N := some 78) (v := ?_) (a' := ?_) #[true, true, true, true, true, true, true, true, true, true, true, true, true, true, true, true, false] rfl rfl (any_of HT_.out (by kernel_rfl)) (fun _ _ _ h => h) (Or.inl ⟨by rfl, ?_⟩) ?_ ?_; rotate_left
                              ·
                               intro w'; go_simp; with_reducible rfl
                              rotate_left
                              ·
                               simp only [Act.put, List.setIfInBounds_toArray, List.set_cons_zero, List.set_cons_succ, i64_w, i32_w]; rfl
                              refine pure_ (i := 16) (N := some 10) (v := ?_) (a' := ?_) #[true, true, true, true, true, true, true, true, true, true, true, true, true, true, true, true, true] rfl rfl (any_of HT_.out (by kernel_rfl)) (fun _ _ _ h => h) (Or.inl ⟨by rfl, ?_⟩) ?_ ?_; rotate_left
                              ·
                               intro w'; go_simp; with_reducible rfl
                              rotate_left
                              ·
                               simp only [Act.put, List.setIfInBounds_toArray, List.set_cons_zero, List.set_cons_succ, i64_w, i32_w]; rfl
                              refine done_ (done_of HT_.out (by kernel_rfl)) ?_
                              try go_wp2
                              go_roundg k4
                              case measure => have := HJ7.out; have := HK2.out; have := HK3.out; have := HK4.out; omega
                              case rel => exact ⟨((x6_4 ++ (⟨#[44, 32]⟩ : ByteArray)) ++ (((((rdOf ByteArray.empty l1 (ji69)) ++ (⟨#[32, 45, 32]⟩ : ByteArray)) ++ (rdOf ByteArray.empty l1 (ji73))) ++ (⟨#[32, 60, 61, 32]⟩ : ByteArray)) ++ t251)), (wrap64 (x8_4 + 1)), (by first | rfl | (simp; done) | (simp only [← hji69, ← hji73] <;> (first | rfl | simp)) | (simp [*]; done)), (by first | rfl | (simp; done) | (simp [*]; done)), H', ⟨by have := HJ7.out; have := HK2.out; have := HK3.out; have := HK4.out; omega⟩, ⟨by (with_reducible repeat (first | refine blk_drewN ?_ _ | refine blk_drew ?_ | refine blk_alloc ?_ _)); exact BK238.out⟩, ⟨by repeat (first | (with_reducible first | exact HB.out | apply below_alloc | apply pw_below_drewN | apply below_drew1 | refine below_set ?_ GE238.out) | exact HB.out)⟩⟩
                             ·
                              rw [if_neg c86] at H; exact absurd H (by simp)
                            ·
                             rw [if_neg c85] at H; exact absurd H (by simp)
                          ·
                           rw [if_neg c79] at H; exact absurd H (by simp)
                         ·
                          rw [if_neg c77] at H; exact absurd H (by simp)
                        ·
                         rw [if_neg c76] at H; exact absurd H (by simp)
                       ·
                        rw [if_neg c75] at H; exact absurd H (by simp)
                      ·
                       rw [if_neg c74] at H; exact absurd H (by simp)
                     ·
                      rw [if_neg c72] at H; exact absurd H (by simp)
                    ·
                     rw [if_neg c71] at H; exact absurd H (by simp)
                   ·
                    rw [if_neg c70] at H; exact absurd H (by simp)
               ·
                rw [if_neg c31] at H; exact absurd H (by simp)
              ·
               rw [if_neg c30] at H; exact absurd H (by simp)
             ·
              rw [if_neg c28] at H; have c28b0 : decide (x8_4 < a0_0) = false := decide_eq_false c28; clear c28; have H' := Aside0.mk H; clear H; have hcz90_0 : wr.cell? ⟨gb238, 0, none⟩ = some (.int .i64 a0_0) := (blk_cell BK238.out 0).trans rfl; have hcz90_1 : wr.cell? ⟨gb238, 1, none⟩ = some (.slice A0_1 l0_1.length c0_1) := (blk_cell BK238.out 1).trans rfl; have hfz90_0 := blk_frozen BK238.out 0; have hfz90_1 := blk_frozen BK238.out 1
              go_wp2
              go_roundg k4
              case measure => have := HJ7.out; have := HK2.out; have := HK3.out; have := HK4.out; omega
              case rel => exact ⟨(x6_4), (wrap64 (x7_3 + 1)), (by first | rfl | (simp; done) | (simp [*]; done)), (by first | rfl | (simp; done) | (simp [*]; done)), H', ⟨by have := HJ7.out; have := HK2.out; have := HK3.out; have := HK4.out; omega⟩, ⟨by (with_reducible repeat (first | refine blk_drewN ?_ _ | refine blk_drew ?_ | refine blk_alloc ?_ _)); exact BK238.out⟩, ⟨by repeat (first | (with_reducible first | exact HB.out | apply below_alloc | apply pw_below_drewN | apply below_drew1 | refine below_set ?_ GE238.out) | exact HB.out)⟩⟩
          ·
           rw [if_neg c26] at H; have c26b0 : decide (x7_3 < a0_0) = false := decide_eq_false c26; clear c26
           by_cases c91 : x6_3.toList = ([] : List UInt8)
           ·
            rw [if_pos c91] at H; have c91b0 : (x6_3.toList == ([] : List UInt8)) = true := beq_iff_eq.mpr c91; have c91b1 : (x6_3.toList != ([] : List UInt8)) = false := bne_eq_false_iff_eq.mpr c91
            (try (have c91b2 : x6_3.toList.isEmpty = true := by rw [c91]; rfl))
            clear c91; obtain rfl := Option.some.inj H; have hcz92_0 : wr.cell? ⟨gb238, 0, none⟩ = some (.int .i64 a0_0) := (blk_cell BK238.out 0).trans rfl; have hcz92_1 : wr.cell? ⟨gb238, 1, none⟩ = some (.slice A0_1 l0_1.length c0_1) := (blk_cell BK238.out 1).trans rfl; have hfz92_0 := blk_frozen BK238.out 0; have hfz92_1 := blk_frozen BK238.out 1
            go_wp2
            go_ret
            exact ⟨by first | rfl | (simp [errW_none, errW_some] <;> rfl) | (simp [*, errW_none, errW_some] <;> rfl), by repeat (first | (with_reducible first | exact HB.out | apply below_alloc | apply pw_below_drewN | apply below_drew1 | refine below_set ?_ GE238.out) | exact HB.out)⟩
           ·
            rw [if_neg c91] at H; have c91b0 : (x6_3.toList == ([] : List UInt8)) = false := beq_eq_false_iff_ne.mpr c91; have c91b1 : (x6_3.toList != ([] : List UInt8)) = true := bne_iff_ne.mpr c91
            (try (have c91b2 : x6_3.toList.isEmpty = false := List.isEmpty_eq_false_iff.mpr c91))
            obtain rfl := Option.some.inj H; have hcz93_0 : wr.cell? ⟨gb238, 0, none⟩ = some (.int .i64 a0_0) := (blk_cell BK238.out 0).trans rfl; have hcz93_1 : wr.cell? ⟨gb238, 1, none⟩ = some (.slice A0_1 l0_1.length c0_1) := (blk_cell BK238.out 1).trans rfl; have hfz93_0 := blk_frozen BK238.out 0; have hfz93_1 := blk_frozen BK238.out 1
            go_wp2
            go_ret
            exact ⟨by first | rfl | (simp [errW_none, errW_some] <;> rfl) | (simp [*, errW_none, errW_some] <;> rfl), by repeat (first | (with_reducible first | exact HB.out | apply below_alloc | apply pw_below_drewN | apply below_drew1 | refine below_set ?_ GE238.out) | exact HB.out)⟩

end Go.Proofs.YtlkcbfonjcflgaaDoor.Q
