/- Functions of the translation as Lean functions, each with a proof that a call answers so; out of the seat, by this claim's own program prt.py. -/
import Derived.Test.YtfeloencepgdlaaDoorWTab
import Derived.Test.YtfeloencepgdlaaDoorWRepsOne
import Derived.Test.YtfeloencepgdlaaDoorWGuard
import Derived.Test.YtfeloencepgdlaaDoorQx0
import Derived.Test.YtfeloencepgdlaaDoorQx9
import Derived.Test.YtfeloencepgdlaaDoorQx10
import Derived.Test.YtfeloencepgdlaaDoorQx11
import Derived.Test.YtfeloencepgdlaaDoorQStep
namespace Go.Proofs.YtfeloencepgdlaaDoor.Q
open Go.RowKit Go.Proofs.YtfeloencepgdlaaDoorW.PrintWords Go.Proofs.YtfeloencepgdlaaDoorW.PrintLast Go.Proofs.YtfeloencepgdlaaDoorW.PrintMore
attribute [local go_sem] max2_int min2_int max_two min_two max_three min_three max_four min_four   -- for this text's walks alone
set_option linter.unusedVariables false
set_option linter.unusedSimpArgs false

/-! ### impl_SegOk: function 9 -/
abbrev impl_SegOk.b0_ : Array Bool := #[false, false, false, false, false, false, false, false, false, false, false, false, false, false, false, false, false, false, false, false, false, false, false]
abbrev impl_SegOk.b1_ : Array Bool := #[true, false, false, false, false, false, false, false, false, false, false, false, false, false, false, false, false, false, false, false, false, false, false]
abbrev impl_SegOk.b2_ : Array Bool := #[true, true, false, false, false, false, false, false, false, false, false, false, false, false, false, false, false, false, false, false, false, false, false]
abbrev impl_SegOk.b3_ : Array Bool := #[true, true, true, false, false, false, false, false, false, false, false, false, false, false, false, false, false, false, false, false, false, false, false]
abbrev impl_SegOk.b4_ : Array Bool := #[true, true, true, true, false, false, false, false, false, false, false, false, false, false, false, false, false, false, false, false, false, false, false]
abbrev impl_SegOk.b5_ : Array Bool := #[true, true, true, true, true, false, false, false, false, false, false, false, false, false, false, false, false, false, false, false, false, false, false]
abbrev impl_SegOk.b6_ : Array Bool := #[true, true, true, true, true, true, false, false, false, false, false, false, false, false, false, false, false, false, false, false, false, false, false]
abbrev impl_SegOk.b7_ : Array Bool := #[true, true, true, true, true, true, true, false, false, false, false, false, false, false, false, false, false, false, false, false, false, false, false]
abbrev impl_SegOk.b8_ : Array Bool := #[true, true, true, true, true, true, true, true, false, false, false, false, false, false, false, false, false, false, false, false, false, false, false]
abbrev impl_SegOk.b9_ : Array Bool := #[true, true, true, true, true, true, true, true, true, false, false, false, false, false, false, false, false, false, false, false, false, false, false]
abbrev impl_SegOk.b10_ : Array Bool := #[true, true, true, true, true, true, true, true, false, true, false, false, false, false, false, false, false, false, false, false, false, false, false]
abbrev impl_SegOk.b11_ : Array Bool := #[true, true, true, true, true, true, true, true, true, true, false, false, false, false, false, false, false, false, false, false, false, false, false]
abbrev impl_SegOk.b12_ : Array Bool := #[true, true, true, true, true, true, true, true, false, true, true, false, false, false, false, false, false, false, false, false, false, false, false]
abbrev impl_SegOk.b13_ : Array Bool := #[true, true, true, true, true, true, true, true, true, true, true, false, false, false, false, false, false, false, false, false, false, false, false]
abbrev impl_SegOk.b14_ : Array Bool := #[true, true, true, true, true, true, true, true, true, true, true, true, false, false, false, false, false, false, false, false, false, false, false]
abbrev impl_SegOk.b15_ : Array Bool := #[true, true, true, true, true, true, true, true, true, true, true, true, true, false, false, false, false, false, false, false, false, false, false]
abbrev impl_SegOk.b16_ : Array Bool := #[true, true, true, true, true, true, true, true, true, true, true, true, true, true, false, false, false, false, false, false, false, false, false]
abbrev impl_SegOk.b17_ : Array Bool := #[true, true, true, true, true, true, true, true, true, true, true, true, true, true, true, false, false, false, false, false, false, false, false]
abbrev impl_SegOk.b18_ : Array Bool := #[true, true, true, true, true, true, true, true, true, true, true, true, true, true, true, true, false, false, false, false, false, false, false]
abbrev impl_SegOk.b19_ : Array Bool := #[true, true, true, true, true, true, true, true, true, true, true, true, true, true, true, true, true, false, false, false, false, false, false]
abbrev impl_SegOk.b20_ : Array Bool := #[true, true, true, true, true, true, true, true, true, true, true, true, true, true, true, true, true, true, false, false, false, false, false]
abbrev impl_SegOk.b21_ : Array Bool := #[true, true, true, true, true, true, true, true, true, true, true, true, true, true, true, true, true, true, true, false, false, false, false]
abbrev impl_SegOk.b22_ : Array Bool := #[true, true, true, true, true, true, true, true, true, true, true, true, true, true, true, true, true, true, true, true, false, false, false]
abbrev impl_SegOk.b23_ : Array Bool := #[true, true, true, true, true, true, true, true, true, true, true, true, true, true, true, true, true, true, true, true, true, false, false]
abbrev impl_SegOk.b24_ : Array Bool := #[true, true, true, true, true, true, true, true, true, true, true, true, true, true, true, true, true, true, true, true, true, true, false]
abbrev impl_SegOk.b25_ : Array Bool := #[true, true, true, true, true, true, true, true, true, true, true, true, true, true, true, true, true, true, true, true, true, true, true]
mutual
def impl_SegOk.j0 : Nat → Int → Int → Int → Bool → List (List (S55)) → List (S62) → List Bool → Option (Bool)
 | 0, _, _, _, _, _, _, _ => none
 | k + 1, x0, x1, x7, x42, x226000, x226001, x226002 => if x42 = true then (some false) else (impl_SegOk.l0 k x0 x1 x7 (([] : List (S55))) x226000 (x226000.length : Int) 0 x226000 x226001 x226002)
def impl_SegOk.l0 : Nat → Int → Int → Int → List (S55) → List (List (S55)) → Int → Int → List (List (S55)) → List (S62) → List Bool → Option (Bool)
 | 0, _, _, _, _, _, _, _, _, _, _ => none
 | k + 1, x0, x1, x7, x8, x45, x46, x47, x226000, x226001, x226002 => if x47 < x46 then (if 0 ≤ x47 then (if x47 < (x45.length : Int) then (impl_SegOk.l1 k x0 x1 x7 x8 (rd_L7 x45 x47) x45 x46 x47 (rd_L7 x45 x47) ((rd_L7 x45 x47).length : Int) 0 x226000 x226001 x226002) else (none)) else (none)) else ((impl_ends.f x1).bind fun bt242 => (if 0 < (x226000.length : Int) then ((impl_Sym_35.f k (rd_L7 x226000 0) bt242.1 bt242.2.1).bind fun t249 => (if t249 = true then (if 0 ≤ (wrap64 (x7 - 1)) then (if (wrap64 (x7 - 1)) < (x226000.length : Int) then ((impl_Sym_35.f k (rd_L7 x226000 (wrap64 (x7 - 1))) bt242.2.2.1 bt242.2.2.2).bind fun t251 => (if t251 = true then ((slices_ContainsFunc__impl_SegOk_1.f k x226001).bind fun t252 => (some (!t252))) else (some false))) else (none)) else (none)) else (some false))) else (none)))
def impl_SegOk.l1 : Nat → Int → Int → Int → List (S55) → List (S55) → List (List (S55)) → Int → Int → List (S55) → Int → Int → List (List (S55)) → List (S62) → List Bool → Option (Bool)
 | 0, _, _, _, _, _, _, _, _, _, _, _, _, _, _ => none
 | k + 1, x0, x1, x7, x8, x10, x45, x46, x47, x51, x52, x53, x226000, x226001, x226002 => if x53 < x52 then (if 0 ≤ x53 then (if x53 < (x51.length : Int) then ((impl_SymOk.f x0 ((rd_T55 x51 x53).f0) ((rd_T55 x51 x53).f1)).bind fun t234 => (if t234 = true then (if x53 > 0 then (if 0 ≤ (wrap64 (x53 - 1)) then (if (wrap64 (x53 - 1)) < (x10.length : Int) then ((impl_SymLess.f ((rd_T55 x10 (wrap64 (x53 - 1))).f0) ((rd_T55 x10 (wrap64 (x53 - 1))).f1) ((rd_T55 x51 x53).f0) ((rd_T55 x51 x53).f1)).bind fun t236 => (if t236 = true then ((impl_Sym_35.f k x8 ((rd_T55 x51 x53).f0) ((rd_T55 x51 x53).f1)).bind fun t237 => (if t237 = true then (some false) else (impl_SegOk.l1 k x0 x1 x7 x8 x10 x45 x46 x47 x51 x52 (wrap64 (x53 + 1)) x226000 x226001 x226002))) else (some false))) else (none)) else (none)) else ((impl_Sym_35.f k x8 ((rd_T55 x51 x53).f0) ((rd_T55 x51 x53).f1)).bind fun t238 => (if t238 = true then (some false) else (impl_SegOk.l1 k x0 x1 x7 x8 x10 x45 x46 x47 x51 x52 (wrap64 (x53 + 1)) x226000 x226001 x226002)))) else (some false))) else (none)) else (none)) else (if (x10.length : Int) = 0 then (some false) else (if x8.length + x10.length < 8796093022208 then ((some (x8 ++ x10 : List (S55))).bind fun y239 => (if (y239.length : Int) > 40 then (some false) else (impl_SegOk.l0 k x0 x1 x7 y239 x45 x46 (wrap64 (x47 + 1)) x226000 x226001 x226002))) else (none)))
end
def impl_SegOk.f (k : Nat) (a0 : Int) (a1 : Int) (l2_0 : List (List (S55))) (l2_1 : List (S62)) (l2_2 : List Bool) : Option (Bool) := (impl_isShape.f a0 a1).bind fun t226 => (if t226 = true then ((impl_inRange.f (l2_0.length : Int) 1 16).bind fun t227 => (if t227 = true then (if (l2_1.length : Int) = (wrap64 ((l2_0.length : Int) - 1)) then (impl_SegOk.j0 k a0 a1 (l2_0.length : Int) ((l2_2.length : Int) != (wrap64 ((l2_0.length : Int) - 1))) l2_0 l2_1 l2_2) else (impl_SegOk.j0 k a0 a1 (l2_0.length : Int) true l2_0 l2_1 l2_2)) else (impl_SegOk.j0 k a0 a1 (l2_0.length : Int) true l2_0 l2_1 l2_2))) else (impl_SegOk.j0 k a0 a1 (l2_0.length : Int) true l2_0 l2_1 l2_2))
theorem impl_SegOk.mono_l : ∀ k, (∀ y0 y1 y2 y3 y4 y5 y6, LeO (impl_SegOk.j0 k y0 y1 y2 y3 y4 y5 y6) (impl_SegOk.j0 (k + 1) y0 y1 y2 y3 y4 y5 y6)) ∧ (∀ y0 y1 y2 y3 y4 y5 y6 y7 y8 y9, LeO (impl_SegOk.l0 k y0 y1 y2 y3 y4 y5 y6 y7 y8 y9) (impl_SegOk.l0 (k + 1) y0 y1 y2 y3 y4 y5 y6 y7 y8 y9)) ∧ (∀ y0 y1 y2 y3 y4 y5 y6 y7 y8 y9 y10 y11 y12 y13, LeO (impl_SegOk.l1 k y0 y1 y2 y3 y4 y5 y6 y7 y8 y9 y10 y11 y12 y13) (impl_SegOk.l1 (k + 1) y0 y1 y2 y3 y4 y5 y6 y7 y8 y9 y10 y11 y12 y13))
 | 0 => ⟨fun _ _ _ _ _ _ _ r h => by simp [impl_SegOk.j0] at h, fun _ _ _ _ _ _ _ _ _ _ r h => by simp [impl_SegOk.l0] at h, fun _ _ _ _ _ _ _ _ _ _ _ _ _ _ r h => by simp [impl_SegOk.l1] at h⟩
 | k + 1 => by
  obtain ⟨ih0, ih1, ih2⟩ := impl_SegOk.mono_l k; refine ⟨?_, ?_, ?_⟩
  ·
   intro y0 y1 y2 y3 y4 y5 y6; unfold impl_SegOk.j0
   repeat' first
   | (with_reducible exact ih0 _ _ _ _ _ _ _)
   | (with_reducible exact ih1 _ _ _ _ _ _ _ _ _ _)
   | (with_reducible exact ih2 _ _ _ _ _ _ _ _ _ _ _ _ _ _)
   | (with_reducible exact impl_Sym_35.mono _ _ _ _)
   | (with_reducible exact slices_ContainsFunc__impl_SegOk_1.mono _ _)
   | (with_reducible exact LeO.refl _)
   | (with_reducible exact LeO.none _)
   | (with_reducible refine LeO.ite ?_ ?_)
   | (with_reducible refine LeO.bind ?_ (fun _ => ?_))
   | exact ih0 _ _ _ _ _ _ _
   | exact ih1 _ _ _ _ _ _ _ _ _ _
   | exact ih2 _ _ _ _ _ _ _ _ _ _ _ _ _ _
   | exact impl_Sym_35.mono _ _ _ _
   | exact slices_ContainsFunc__impl_SegOk_1.mono _ _
   | exact LeO.none _
   | refine LeO.ite ?_ ?_
   | refine LeO.bind ?_ (fun _ => ?_)
  ·
   intro y0 y1 y2 y3 y4 y5 y6 y7 y8 y9; unfold impl_SegOk.l0
   repeat' first
   | (with_reducible exact ih0 _ _ _ _ _ _ _)
   | (with_reducible exact ih1 _ _ _ _ _ _ _ _ _ _)
   | (with_reducible exact ih2 _ _ _ _ _ _ _ _ _ _ _ _ _ _)
   | (with_reducible exact impl_Sym_35.mono _ _ _ _)
   | (with_reducible exact slices_ContainsFunc__impl_SegOk_1.mono _ _)
   | (with_reducible exact LeO.refl _)
   | (with_reducible exact LeO.none _)
   | (with_reducible refine LeO.ite ?_ ?_)
   | (with_reducible refine LeO.bind ?_ (fun _ => ?_))
   | exact ih0 _ _ _ _ _ _ _
   | exact ih1 _ _ _ _ _ _ _ _ _ _
   | exact ih2 _ _ _ _ _ _ _ _ _ _ _ _ _ _
   | exact impl_Sym_35.mono _ _ _ _
   | exact slices_ContainsFunc__impl_SegOk_1.mono _ _
   | exact LeO.none _
   | refine LeO.ite ?_ ?_
   | refine LeO.bind ?_ (fun _ => ?_)
  ·
   intro y0 y1 y2 y3 y4 y5 y6 y7 y8 y9 y10 y11 y12 y13; unfold impl_SegOk.l1
   repeat' first
   | (with_reducible exact ih0 _ _ _ _ _ _ _)
   | (with_reducible exact ih1 _ _ _ _ _ _ _ _ _ _)
   | (with_reducible exact ih2 _ _ _ _ _ _ _ _ _ _ _ _ _ _)
   | (with_reducible exact impl_Sym_35.mono _ _ _ _)
   | (with_reducible exact slices_ContainsFunc__impl_SegOk_1.mono _ _)
   | (with_reducible exact LeO.refl _)
   | (with_reducible exact LeO.none _)
   | (with_reducible refine LeO.ite ?_ ?_)
   | (with_reducible refine LeO.bind ?_ (fun _ => ?_))
   | exact ih0 _ _ _ _ _ _ _
   | exact ih1 _ _ _ _ _ _ _ _ _ _
   | exact ih2 _ _ _ _ _ _ _ _ _ _ _ _ _ _
   | exact impl_Sym_35.mono _ _ _ _
   | exact slices_ContainsFunc__impl_SegOk_1.mono _ _
   | exact LeO.none _
   | refine LeO.ite ?_ ?_
   | refine LeO.bind ?_ (fun _ => ?_)
theorem impl_SegOk.mono : ∀ a0 a1 a2 a3 a4 k, LeO (impl_SegOk.f k a0 a1 a2 a3 a4) (impl_SegOk.f (k + 1) a0 a1 a2 a3 a4) := by
 intro a0 a1 a2 a3 a4 k; obtain ⟨ih0, ih1, ih2⟩ := impl_SegOk.mono_l k; unfold impl_SegOk.f
 repeat' first
   | (with_reducible exact ih0 _ _ _ _ _ _ _)
   | (with_reducible exact ih1 _ _ _ _ _ _ _ _ _ _)
   | (with_reducible exact ih2 _ _ _ _ _ _ _ _ _ _ _ _ _ _)
   | (with_reducible exact impl_Sym_35.mono _ _ _ _)
   | (with_reducible exact slices_ContainsFunc__impl_SegOk_1.mono _ _)
   | (with_reducible exact LeO.refl _)
   | (with_reducible exact LeO.none _)
   | (with_reducible refine LeO.ite ?_ ?_)
   | (with_reducible refine LeO.bind ?_ (fun _ => ?_))
   | exact ih0 _ _ _ _ _ _ _
   | exact ih1 _ _ _ _ _ _ _ _ _ _
   | exact ih2 _ _ _ _ _ _ _ _ _ _ _ _ _ _
   | exact impl_Sym_35.mono _ _ _ _
   | exact slices_ContainsFunc__impl_SegOk_1.mono _ _
   | exact LeO.none _
   | refine LeO.ite ?_ ?_
   | refine LeO.bind ?_ (fun _ => ?_)
def impl_SegOk.T11 : Bool × List (List Nat × List Nat) := (true, [([], []), ([], []), ([0, 1], [0, 1]), ([2], [2]), ([3, 2], [3]), ([4], [4]), ([5, 4], [4, 5]), ([6, 4, 4], [4, 6]), ([7], [7]), ([7], [7]), ([9, 7], [7, 9]), ([8, 10, 7], [7, 8, 10]), ([11, 7], [7, 11]), ([7], [7]), ([12, 13, 7, 7], [7, 12, 13]), ([14, 7], [7, 14]), ([7, 15, 4], [4, 7, 15]), ([4, 16], [4, 16]), ([17, 14], [17]), ([18], [18]), ([18], [18]), ([19, 20, 18, 18], [18, 19, 20]), ([18, 21], [18, 21])])
def impl_SegOk.B11 : List Nat := [0, 0, 3, 7, 15, 31, 63, 127, 255, 255, 767, 2047, 4095, 255, 16383, 32767, 65535, 131071, 262143, 524287, 524287, 2097151, 4194303]
theorem impl_SegOk.tab11 : rtab .any (opsOf Tryd.f9 11) = impl_SegOk.T11 := by kernel_rfl
theorem impl_SegOk.bits11 : waitsOk impl_SegOk.T11.2 impl_SegOk.B11 = true := by kernel_rfl
def impl_SegOk.T21 : Bool × List (List Nat × List Nat) := (true, [([], []), ([0], [0]), ([1], [1]), ([2], [2]), ([], []), ([3, 4], [3, 4]), ([5, 5], [5]), ([6], [6]), ([7, 6], [6, 7]), ([6], [6]), ([9, 6], [6, 9]), ([8, 10, 6], [6, 8, 10]), ([11, 6], [6, 11]), ([6], [6]), ([12, 13, 6, 6], [6, 12, 13]), ([6, 14], [6, 14]), ([15, 14], [15]), ([16], [16]), ([17, 16], [16, 17]), ([18, 16, 16], [16, 18]), ([19, 16], [16, 19]), ([16, 20], [16, 20]), ([21, 19, 0, 1, 2, 3, 4, 5, 6, 7, 8, 9, 10, 11, 12, 13, 14, 15, 16, 17, 18, 19, 20, 21], [21])])
def impl_SegOk.B21 : List Nat := [0, 1, 3, 7, 0, 31, 63, 127, 255, 127, 639, 2047, 4095, 127, 16383, 32767, 65535, 131071, 262143, 524287, 1048575, 2097151, 4194303]
theorem impl_SegOk.tab21 : rtab .any (opsOf Tryd.f9 21) = impl_SegOk.T21 := by kernel_rfl
theorem impl_SegOk.bits21 : waitsOk impl_SegOk.T21.2 impl_SegOk.B21 = true := by kernel_rfl
set_option maxHeartbeats 8000000 in
set_option maxRecDepth 100000 in
theorem impl_SegOk.calls (k : Nat) (a0 : Int) (a1 : Int) (A2_0 : Option Addr) (c2_0 : Nat) (l2_0 : List (List (S55))) (A2_1 : Option Addr) (c2_1 : Nat) (l2_1 : List (S62)) (A2_2 : Option Addr) (c2_2 : Nat) (l2_2 : List Bool) (r : Bool) (w : World) (hG0 : GL0 w) (hr2_0 : Kd.C (Kd.slice 55 k55) w A2_0 l2_0.length l2_0) (hc2_0 : l2_0.length ≤ c2_0) (hr2_1 : Kd.C k62 w A2_1 l2_1.length l2_1) (hc2_1 : l2_1.length ≤ c2_1) (hr2_2 : Kd.C Kd.bool w A2_2 l2_2.length l2_2) (hc2_2 : l2_2.length ≤ c2_2) (h : impl_SegOk.f k a0 a1 l2_0 l2_1 l2_2 = some r) :
  Calls Tryd.prog 9 #[.int .i64 a0, .int .i64 a1, .agg #[.slice A2_0 l2_0.length c2_0, .slice A2_1 l2_1.length c2_1, .slice A2_2 l2_2.length c2_2]] w fun e w' => e = .returned (.bool r) ∧ Below w.heap.size w w' := by
 have hu32 := Tryd.underlying32; have hu55 := Tryd.underlying55; have HR2_0 := Aside0.mk hr2_0; have HC2_0 := Aside0.mk hc2_0; clear hr2_0 hc2_0; have HR2_1 := Aside0.mk hr2_1; have HC2_1 := Aside0.mk hc2_1; clear hr2_1 hc2_1; have HR2_2 := Aside0.mk hr2_2; have HC2_2 := Aside0.mk hc2_2; clear hr2_2 hc2_2; have HB := Aside0.mk (Below.refl w.heap.size w); have HG0 := Aside0.mk hG0; clear hG0; have H : ((impl_isShape.f a0 a1).bind fun t226 => (if t226 = true then ((impl_inRange.f (l2_0.length : Int) 1 16).bind fun t227 => (if t227 = true then (if (l2_1.length : Int) = (wrap64 ((l2_0.length : Int) - 1)) then (impl_SegOk.j0 k a0 a1 (l2_0.length : Int) ((l2_2.length : Int) != (wrap64 ((l2_0.length : Int) - 1))) l2_0 l2_1 l2_2) else (impl_SegOk.j0 k a0 a1 (l2_0.length : Int) true l2_0 l2_1 l2_2)) else (impl_SegOk.j0 k a0 a1 (l2_0.length : Int) true l2_0 l2_1 l2_2))) else (impl_SegOk.j0 k a0 a1 (l2_0.length : Int) true l2_0 l2_1 l2_2))) = some r := h; clear h; have HC4 := Aside0.mk H; clear H
 go_enter Tryd.func9, Tryd.ntmps9
 go_upto_region 2 with (first | ((with_reducible refine gate_dst (N := 5) rfl ?_); (try (refine gate_guard (by rfl) ?_; dsimp only)); refine box_y 5 #[.slice A2_0 l2_0.length c2_0, .slice A2_1 l2_1.length c2_1, .slice A2_2 l2_2.length c2_2] 32 (h := ?_); intro gb225 hg w5 hbox hb; have n0_ := Aside0.mk (below_step (sq_below HB.out) hb); have n1_ := Aside0.mk (hbox); have n2_ := ge_ hg (below_size (sq_below HB.out)); have n3_ := ge_ hg (below_size (sq_below HB.out)); clear HB; have HB := n0_; have BK225 := n1_; have GW225 := n2_; have GE225 := n3_; clear n0_ n1_ n2_ n3_; clear hb hbox hg; have hcz6_0 := cl_ (v := .slice A2_0 l2_0.length c2_0) BK225 0; have hcz6_1 := cl_ (v := .slice A2_1 l2_1.length c2_1) BK225 1; have hcz6_2 := cl_ (v := .slice A2_2 l2_2.length c2_2) BK225 2; have hfz6_0 := blk_frozen BK225.out 0; have hfz6_1 := blk_frozen BK225.out 1; have hfz6_2 := blk_frozen BK225.out 2))
 (try simp only [Act.put, List.setIfInBounds_toArray, List.set_cons_zero, List.set_cons_succ])
 go_cut [42] (fun v42 wc => ∃ (kq : Nat) (x42_3 : Bool), v42 = .bool x42_3 ∧ Aside0 (impl_SegOk.j0 kq a0 a1 (l2_0.length : Int) x42_3 l2_0 l2_1 l2_2 = some r) ∧ Aside0 (kq ≤ k) ∧ Aside0 (wc.heap[gb225]? = some (.cells #[(.slice A2_0 l2_0.length c2_0), (.slice A2_1 l2_1.length c2_1), (.slice A2_2 l2_2.length c2_2)] 32 (0, 0))) ∧ Aside0 (Below w.heap.size w wc))
 case first =>
  have H := HC4.out; clear HC4; replace H := Option.bind_eq_some_iff.mp H; obtain ⟨t226, A70, H⟩ := H; (try dsimp only at H); have A7 := Aside0.mk A70; clear A70
  by_cases c8 : t226 = true
  ·
   subst c8; have H1 := ifp_ H
   clear H; have H := H1; clear H1; replace H := Option.bind_eq_some_iff.mp H; obtain ⟨t227, A90, H⟩ := H; (try dsimp only at H); have A9 := Aside0.mk A90; clear A90
   by_cases c10 : t227 = true
   ·
    subst c10; have H1 := ifp_ H
    clear H; have H := H1; clear H1
    by_cases c11 : (l2_1.length : Int) = (wrap64 ((l2_0.length : Int) - 1))
    ·
     rw [if_pos c11] at H; have c11b0 : ((l2_1.length : Int) == (wrap64 ((l2_0.length : Int) - 1))) = true := beq_iff_eq.mpr c11; have c11b1 : ((l2_1.length : Int) != (wrap64 ((l2_0.length : Int) - 1))) = false := bne_eq_false_iff_eq.mpr c11; clear c11
     (first | rw [c11b0] | (simp only [i64_w, i32_w]; rw [c11b0]) | skip)
     have H' := Aside0.mk H; clear H
     go_wp2_with (first | ((with_reducible refine gate_callee (f := 31) rfl ?_); refine gl_ 20 Tryd.func31 #[.int .i64 a0, .int .i64 a1] (h := ?_); (with_reducible refine (impl_isShape.calls a0 a1 true _ A7.out).mono ?_); rintro e w' ⟨rfl, ⟨nd, rfl⟩⟩; refine ⟨_, rfl, ?_⟩) | (go_at_call 32; (with_reducible refine (impl_inRange.calls (l2_0.length : Int) 1 16 true _ A9.out).mono ?_); rintro e w' ⟨rfl, ⟨nd, rfl⟩⟩; have hcz12_0 := cl_ (v := .slice A2_0 l2_0.length c2_0) BK225 0; have hcz12_1 := cl_ (v := .slice A2_1 l2_1.length c2_1) BK225 1; have hcz12_2 := cl_ (v := .slice A2_2 l2_2.length c2_2) BK225 2; have hfz12_0 := blk_frozen BK225.out 0; have hfz12_1 := blk_frozen BK225.out 1; have hfz12_2 := blk_frozen BK225.out 2))
     go_meet
     case rel => exact ⟨_, (((l2_2.length : Int) != (wrap64 ((l2_0.length : Int) - 1)))), (by first | rfl | (simp; done) | (simp [*]; done)), H', ⟨by first | omega | exact Nat.le_refl _⟩, bk_ BK225, ⟨sq_below1 HB.out GE225.out⟩⟩
    ·
     rw [if_neg c11] at H; have c11b0 : ((l2_1.length : Int) == (wrap64 ((l2_0.length : Int) - 1))) = false := beq_eq_false_iff_ne.mpr c11; have c11b1 : ((l2_1.length : Int) != (wrap64 ((l2_0.length : Int) - 1))) = true := bne_iff_ne.mpr c11
     (first | rw [c11b0] | (simp only [i64_w, i32_w]; rw [c11b0]) | skip)
     have H' := Aside0.mk H; clear H
     go_wp2_with (first | ((with_reducible refine gate_callee (f := 31) rfl ?_); refine gl_ 20 Tryd.func31 #[.int .i64 a0, .int .i64 a1] (h := ?_); (with_reducible refine (impl_isShape.calls a0 a1 true _ A7.out).mono ?_); rintro e w' ⟨rfl, ⟨nd, rfl⟩⟩; refine ⟨_, rfl, ?_⟩) | (go_at_call 32; (with_reducible refine (impl_inRange.calls (l2_0.length : Int) 1 16 true _ A9.out).mono ?_); rintro e w' ⟨rfl, ⟨nd, rfl⟩⟩; have hcz13_0 := cl_ (v := .slice A2_0 l2_0.length c2_0) BK225 0; have hcz13_1 := cl_ (v := .slice A2_1 l2_1.length c2_1) BK225 1; have hcz13_2 := cl_ (v := .slice A2_2 l2_2.length c2_2) BK225 2; have hfz13_0 := blk_frozen BK225.out 0; have hfz13_1 := blk_frozen BK225.out 1; have hfz13_2 := blk_frozen BK225.out 2))
     go_meet
     case rel => exact ⟨_, (true), (by first | rfl | (simp; done) | (simp [*]; done)), H', ⟨by first | omega | exact Nat.le_refl _⟩, bk_ BK225, ⟨sq_below1 HB.out GE225.out⟩⟩
   ·
    replace c10 := Bool.eq_false_iff.mpr c10; subst c10; have H1 := ifn_ H
    clear H; have H := H1; clear H1; have H' := Aside0.mk H; clear H
    go_wp2_with (first | ((with_reducible refine gate_callee (f := 31) rfl ?_); refine gl_ 20 Tryd.func31 #[.int .i64 a0, .int .i64 a1] (h := ?_); (with_reducible refine (impl_isShape.calls a0 a1 true _ A7.out).mono ?_); rintro e w' ⟨rfl, ⟨nd, rfl⟩⟩; refine ⟨_, rfl, ?_⟩) | (go_at_call 32; (with_reducible refine (impl_inRange.calls (l2_0.length : Int) 1 16 false _ A9.out).mono ?_); rintro e w' ⟨rfl, ⟨nd, rfl⟩⟩))
    go_meet
    case rel => exact ⟨_, (true), (by first | rfl | (simp; done) | (simp [*]; done)), H', ⟨by first | omega | exact Nat.le_refl _⟩, bk_ BK225, ⟨sq_below1 HB.out GE225.out⟩⟩
  ·
   replace c8 := Bool.eq_false_iff.mpr c8; subst c8; have H1 := ifn_ H
   clear H; have H := H1; clear H1; have H' := Aside0.mk H; clear H
   go_wp2_with (first | ((with_reducible refine gate_callee (f := 31) rfl ?_); refine gl_ 20 Tryd.func31 #[.int .i64 a0, .int .i64 a1] (h := ?_); (with_reducible refine (impl_isShape.calls a0 a1 false _ A7.out).mono ?_); rintro e w' ⟨rfl, ⟨nd, rfl⟩⟩; refine ⟨_, rfl, ?_⟩))
   go_meet
   case rel => exact ⟨_, (true), (by first | rfl | (simp; done) | (simp [*]; done)), H', ⟨by first | omega | exact Nat.le_refl _⟩, bk_ BK225, ⟨sq_below1 HB.out GE225.out⟩⟩
 case rest =>
  clear HC4
  try clear c1
  try clear c2
  try clear p2
  try clear c3
  try clear p6
  try clear c8
  try clear c9
  try clear c10
  try clear c11
  try clear c11b0
  try clear c11b1
  try clear hcz12_0
  try clear hcz12_1
  try clear hcz12_2
  try clear hcz13_0
  try clear hcz13_1
  try clear hcz13_2
  try clear hcz6_0
  try clear hcz6_1
  try clear hcz6_2
  try clear hfz12_0
  try clear hfz12_1
  try clear hfz12_2
  try clear hfz13_0
  try clear hfz13_1
  try clear hfz13_2
  try clear hfz6_0
  try clear hfz6_1
  try clear hfz6_2
  obtain ⟨kq, x42_3, rfl, HA, HJ3, BK225, HB⟩ := hcut; cases kq with
  | zero => exact absurd HA.out (by simp [impl_SegOk.j0])
  | succ kj3 =>
   have H := HA.out; clear HA; simp only [impl_SegOk.j0] at H
   by_cases c14 : x42_3 = true
   ·
    subst c14; have H1 := ifp_ H
    clear H; have H := H1; clear H1; obtain rfl := Option.some.inj H
    go_wp2
    go_ret
    exact ⟨by first | rfl | (simp [errW_none, errW_some] <;> rfl) | (simp [*, errW_none, errW_some] <;> rfl), sq_below1 HB.out GE225.out⟩
   ·
    replace c14 := Bool.eq_false_iff.mpr c14; subst c14; have H1 := ifn_ H
    clear H; have H := H1; clear H1; obtain ⟨y228, hy228⟩ : ∃ y_ : List (S55), y_ = (([] : List (S55))) := ⟨_, rfl⟩; replace H : (impl_SegOk.l0 kj3 a0 a1 (l2_0.length : Int) y228 l2_0 (l2_0.length : Int) 0 l2_0 l2_1 l2_2) = some r := by first | (rw [hy228]; with_reducible exact H) | (have H2_ := (Option.bind_some _ _).symm.trans H; rw [hy228]; with_reducible exact H2_) | (have H2_ := (Option.bind_some _ _).symm.trans H; with_reducible exact H2_) | with_reducible exact H | (rw [hy228]; exact H) | exact H
    have Ny228 := Aside0.mk hy228; clear hy228; have H' := Aside0.mk H; clear H
    go_wp2_with (first | ((with_reducible refine gate_dst (N := 43) rfl ?_); (try (refine gate_guard (by rfl) ?_; dsimp only)); refine Kd.R_lit k55 _ 55 ?hg (N := 43) ?hd (xs := ([] : List (S55))) (inner := []) (ok := fun _ => True) (okp := fun _ => True) ?hr ?hp (fun _ hk => hk) trivial (Below.refl _ _) (Nat.le_refl _) (by simp) ?_; (case hd => rfl); (case hg => rfl); (case hr => first | (go_simp; done) | (go_simp; rfl)); (case hp => exact (Reps.none _ _)); intro v229 w15 ho16 hb hg_ hnew_; clear hg_ hnew_; (first | rw [← Ny228.out] at ho16 | (simp only [Int.reduceToNat] at ho16; rw [← Ny228.out] at ho16)); have n0_ := Aside0.mk (Kd.R_lower ho16 (below_size (sq_below1 HB.out GE225.out))); have n1_ := Aside0.mk (blk_below (sq_blk BK225.out) hb); have n2_ := Aside0.mk (below_step (sq_below1 HB.out GE225.out) hb); clear BK225; clear HB; have HO230 := n0_; have BK225 := n1_; have HB := n2_; clear n0_ n1_ n2_; clear hb ho16; have hcz17_0 := cl_ (v := .slice A2_0 l2_0.length c2_0) BK225 0; have hcz17_1 := cl_ (v := .slice A2_1 l2_1.length c2_1) BK225 1; have hcz17_2 := cl_ (v := .slice A2_2 l2_2.length c2_2) BK225 2; have hfz17_0 := blk_frozen BK225.out 0; have hfz17_1 := blk_frozen BK225.out 1; have hfz17_2 := blk_frozen BK225.out 2))
    go_loopg [8, 47] kj3 (fun kq v8 v47 w' => ∃ (x8_2 : List (S55)) (x47_2 : Int), v47 = .int .i64 x47_2 ∧ Aside0 (impl_SegOk.l0 kq a0 a1 (l2_0.length : Int) x8_2 l2_0 (l2_0.length : Int) x47_2 l2_0 l2_1 l2_2 = some r) ∧ Aside0 (kq ≤ kj3) ∧ Aside0 (Kd.R k55 55 w' w.heap.size (fun _ => True) v8 x8_2) ∧ Aside0 (w'.heap[gb225]? = some (.cells #[(.slice A2_0 l2_0.length c2_0), (.slice A2_1 l2_1.length c2_1), (.slice A2_2 l2_2.length c2_2)] 32 (0, 0))) ∧ Aside0 (Below w.heap.size w w'))
    case atStart => exact ⟨(y228), (0), (by first | rfl | (simp; done) | (simp [*]; done)), H', ⟨Nat.le_refl _⟩, ⟨by (with_reducible repeat (first | apply Kd.R_alloc | apply Kd.R_drewN | apply Kd.R_drew)); exact HO230.out⟩, bk_ BK225, ⟨sq_below1 HB.out GE225.out⟩⟩
    case round =>
     clear H'
     try clear c1
     try clear c2
     try clear p2
     try clear c3
     try clear p6
     try clear c8
     try clear c9
     try clear c10
     try clear c11
     try clear c11b0
     try clear c11b1
     try clear c14
     try clear hcz12_0
     try clear hcz12_1
     try clear hcz12_2
     try clear hcz13_0
     try clear hcz13_1
     try clear hcz13_2
     try clear hcz17_0
     try clear hcz17_1
     try clear hcz17_2
     try clear hcz6_0
     try clear hcz6_1
     try clear hcz6_2
     try clear hfz12_0
     try clear hfz12_1
     try clear hfz12_2
     try clear hfz13_0
     try clear hfz13_1
     try clear hfz13_2
     try clear hfz17_0
     try clear hfz17_1
     try clear hfz17_2
     try clear hfz6_0
     try clear hfz6_1
     try clear hfz6_2
     try clear p2
     try clear p6
     obtain ⟨x8_2, x47_2, rfl, HA, HK2, HO_8, BK225, HB⟩ := hrel; cases gk with
     | zero => exact absurd HA.out (by simp [impl_SegOk.l0])
     | succ k2 =>
      have H := HA.out; clear HA; simp only [impl_SegOk.l0] at H
      by_cases c18 : x47_2 < (l2_0.length : Int)
      ·
       rw [if_pos c18] at H; have c18b0 : decide (x47_2 < (l2_0.length : Int)) = true := decide_eq_true c18; clear c18
       by_cases c19 : 0 ≤ x47_2
       ·
        rw [if_pos c19] at H; have c19b0 : decide (0 ≤ x47_2) = true := decide_eq_true c19; clear c19
        by_cases c20 : x47_2 < (l2_0.length : Int)
        ·
         rw [if_pos c20] at H; have c20b0 : decide (x47_2 < (l2_0.length : Int)) = true := decide_eq_true c20; clear c20; have H' := Aside0.mk H; clear H; have p231 : 0 ≤ (x47_2 : Int) := sq_dec; have q231 : x47_2 < (l2_0.length : Int) := sq_dec; obtain ⟨ad231, A231_0, c231_0, e231, hx231_0, hl231_0, hi231_0⟩ := at_L7 HR2_0.out x47_2 p231 q231; cases e231; replace hx231_0 := (HB.out.cell (World.block_lt_of_cell? w _ hx231_0)).trans hx231_0; have HR231_0 := Aside0.mk hi231_0; have HC231_0 := Aside0.mk hl231_0; clear hi231_0 hl231_0; replace p231 := eq_true p231; replace q231 := eq_true q231
         go_wp2
         go_loopg [53] k2 (fun kq v53 w' => ∃ (x53_3 : Int), v53 = .int .i64 x53_3 ∧ Aside0 (impl_SegOk.l1 kq a0 a1 (l2_0.length : Int) x8_2 (rd_L7 l2_0 x47_2) l2_0 (l2_0.length : Int) x47_2 (rd_L7 l2_0 x47_2) ((rd_L7 l2_0 x47_2).length : Int) x53_3 l2_0 l2_1 l2_2 = some r) ∧ Aside0 (kq ≤ k2) ∧ Aside0 (Kd.R k55 55 w' w.heap.size (fun _ => True) u8 x8_2) ∧ Aside0 (w'.heap[gb225]? = some (.cells #[(.slice (some ad231) l2_0.length c2_0), (.slice A2_1 l2_1.length c2_1), (.slice A2_2 l2_2.length c2_2)] 32 (0, 0))) ∧ Aside0 (Below w.heap.size w w'))
         case atStart => exact ⟨(0), (by first | rfl | (simp; done) | (simp [*]; done)), H', ⟨Nat.le_refl _⟩, ⟨by (with_reducible repeat (first | apply Kd.R_alloc | apply Kd.R_drewN | apply Kd.R_drew)); exact HO_8.out⟩, bk_ BK225, ⟨sq_below1 HB.out GE225.out⟩⟩
         case round =>
          clear H'
          try clear c1
          try clear c2
          try clear p2
          try clear q2
          try clear hx2
          try clear c3
          try clear p6
          try clear c8
          try clear c9
          try clear c10
          try clear c11
          try clear c11b0
          try clear c11b1
          try clear c14
          try clear c18
          try clear c18b0
          try clear c19
          try clear c19b0
          try clear c20
          try clear c20b0
          try clear hcz12_0
          try clear hcz12_1
          try clear hcz12_2
          try clear hcz13_0
          try clear hcz13_1
          try clear hcz13_2
          try clear hcz17_0
          try clear hcz17_1
          try clear hcz17_2
          try clear hcz6_0
          try clear hcz6_1
          try clear hcz6_2
          try clear hfz12_0
          try clear hfz12_1
          try clear hfz12_2
          try clear hfz13_0
          try clear hfz13_1
          try clear hfz13_2
          try clear hfz17_0
          try clear hfz17_1
          try clear hfz17_2
          try clear hfz6_0
          try clear hfz6_1
          try clear hfz6_2
          try clear hx231_0
          try clear p2
          try clear p231
          try clear p6
          try clear q231
          obtain ⟨x53_3, rfl, HA, HK3, HO_8, BK225, HB⟩ := hrel; cases gk with
          | zero => exact absurd HA.out (by simp [impl_SegOk.l1])
          | succ k3 =>
           have H := HA.out; clear HA; simp only [impl_SegOk.l1] at H
           by_cases c21 : x53_3 < ((rd_L7 l2_0 x47_2).length : Int)
           ·
            rw [if_pos c21] at H; have c21b0 : decide (x53_3 < ((rd_L7 l2_0 x47_2).length : Int)) = true := decide_eq_true c21; clear c21
            by_cases c22 : 0 ≤ x53_3
            ·
             rw [if_pos c22] at H; have c22b0 : decide (0 ≤ x53_3) = true := decide_eq_true c22; clear c22
             by_cases c23 : x53_3 < ((rd_L7 l2_0 x47_2).length : Int)
             ·
              rw [if_pos c23] at H; have c23b0 : decide (x53_3 < ((rd_L7 l2_0 x47_2).length : Int)) = true := decide_eq_true c23; clear c23; replace H := Option.bind_eq_some_iff.mp H; obtain ⟨t234, A240, H⟩ := H; (try dsimp only at H); have A24 := Aside0.mk A240; clear A240
              by_cases c25 : t234 = true
              ·
               subst c25; have H1 := ifp_ H
               clear H; have H := H1; clear H1
               by_cases c26 : x53_3 > 0
               ·
                rw [if_pos c26] at H; have c26b0 : decide (0 < x53_3) = true := decide_eq_true c26; clear c26; obtain ⟨ji27, hji27⟩ : ∃ j_ : Int, (wrap64 (x53_3 - 1)) = j_ := ⟨_, rfl⟩; replace H : (if 0 ≤ (ji27) then (if (ji27) < ((rd_L7 l2_0 x47_2).length : Int) then ((impl_SymLess.f ((rd_T55 (rd_L7 l2_0 x47_2) (ji27)).f0) ((rd_T55 (rd_L7 l2_0 x47_2) (ji27)).f1) ((rd_T55 (rd_L7 l2_0 x47_2) x53_3).f0) ((rd_T55 (rd_L7 l2_0 x47_2) x53_3).f1)).bind fun t236 => (if t236 = true then ((impl_Sym_35.f k3 x8_2 ((rd_T55 (rd_L7 l2_0 x47_2) x53_3).f0) ((rd_T55 (rd_L7 l2_0 x47_2) x53_3).f1)).bind fun t237 => (if t237 = true then (some false) else (impl_SegOk.l1 k3 a0 a1 (l2_0.length : Int) x8_2 (rd_L7 l2_0 x47_2) l2_0 (l2_0.length : Int) x47_2 (rd_L7 l2_0 x47_2) ((rd_L7 l2_0 x47_2).length : Int) (wrap64 (x53_3 + 1)) l2_0 l2_1 l2_2))) else (some false))) else (none)) else (none)) = some r := by first | (rw [hji27] at H; exact H) | (simp only [hji27] at H ⊢; exact H)
                (try rw [hji27] at A24)
                have hji27w : (IntKind.i64.wrap (x53_3 - 1)) = ji27 := (i64_w _).trans hji27
                by_cases c28 : 0 ≤ (ji27)
                ·
                 rw [if_pos c28] at H; have c28b0 : decide (0 ≤ (ji27)) = true := decide_eq_true c28; clear c28
                 by_cases c29 : (ji27) < ((rd_L7 l2_0 x47_2).length : Int)
                 ·
                  rw [if_pos c29] at H; have c29b0 : decide ((ji27) < ((rd_L7 l2_0 x47_2).length : Int)) = true := decide_eq_true c29; clear c29; replace H := Option.bind_eq_some_iff.mp H; obtain ⟨t236, A300, H⟩ := H; (try dsimp only at H); have A30 := Aside0.mk A300; clear A300
                  by_cases c31 : t236 = true
                  ·
                   subst c31; have H1 := ifp_ H
                   clear H; have H := H1; clear H1; replace H := Option.bind_eq_some_iff.mp H; obtain ⟨t237, A320, H⟩ := H; (try dsimp only at H); have A32 := Aside0.mk A320; clear A320
                   by_cases c33 : t237 = true
                   ·
                    subst c33; have H1 := ifp_ H
                    clear H; have H := H1; clear H1; obtain rfl := Option.some.inj H; have p232 : 0 ≤ (x53_3 : Int) := sq_dec; have q232 : x53_3 < ((rd_L7 l2_0 x47_2).length : Int) := sq_dec; obtain ⟨ad232, e232, hx232_0, hx232_1⟩ := at_T55 HR231_0.out x53_3 p232 q232; cases e232; replace hx232_0 := (HB.out.cell (World.block_lt_of_cell? w _ hx232_0)).trans hx232_0; replace hx232_1 := (HB.out.cell (World.block_lt_of_cell? w _ hx232_1)).trans hx232_1; replace p232 := eq_true p232; replace q232 := eq_true q232
                    try go_wp2_with (first | ((with_reducible refine gate_dst (N := 12) rfl ?_); (try (refine gate_guard (by rfl) ?_; dsimp only)); refine box_y 12 #[.int .i64 0, .int .i64 0] 55 (h := ?_); intro gb233 hg w34 hbox hb; have n0_ := Aside0.mk (Kd.R_below (Kd.R_elderB (sq_row HO_8.out) gb233 (Nat.le_of_eq hg.symm)) hb); have n1_ := Aside0.mk (below_step (sq_below HB.out) hb); have n2_ := Aside0.mk (hbox); have n3_ := ge_ hg (below_size (sq_below HB.out)); have n4_ := ge_ hg (below_size (sq_below HB.out)); clear HO_8; clear HB; have HO_8 := n0_; have HB := n1_; have BK233 := n2_; have GW233 := n3_; have GE233 := n4_; clear n0_ n1_ n2_ n3_ n4_; clear hb hbox hg; have hcz35_0 := cl_ (v := .int .i64 0) BK233 0; have hcz35_1 := cl_ (v := .int .i64 0) BK233 1; have hfz35_0 := blk_frozen BK233.out 0; have hfz35_1 := blk_frozen BK233.out 1))
                    have n0_ : Aside0 (Kd.R k55 55 ((w34.setCell ⟨gb233, 0, none⟩ (.int .i64 ((rd_T55 (rd_L7 l2_0 x47_2) x53_3).f0))).setCell ⟨gb233, 1, none⟩ (.int .i64 ((rd_T55 (rd_L7 l2_0 x47_2) x53_3).f1))) w.heap.size (fun k_ => k_ ≠ gb233) u8 x8_2) := ⟨by (with_reducible repeat (first | apply Kd.R_alloc | apply Kd.R_drewN | apply Kd.R_drew)); exact Kd.R_mono (Kd.R_far (p := ⟨gb233, 1, none⟩) (Kd.R_far (p := ⟨gb233, 0, none⟩) (Kd.R_mono HO_8.out (fun k_ hk => (⟨hk, hk.2⟩ : _ ∧ k_ ≠ gb233))) (fun _ hk => hk.2) (.int .i64 ((rd_T55 (rd_L7 l2_0 x47_2) x53_3).f0))) (fun _ hk => hk.2) (.int .i64 ((rd_T55 (rd_L7 l2_0 x47_2) x53_3).f1))) (fun _ hk => hk.1.2)⟩; have n1_ : Aside0 (((w34.setCell ⟨gb233, 0, none⟩ (.int .i64 ((rd_T55 (rd_L7 l2_0 x47_2) x53_3).f0))).setCell ⟨gb233, 1, none⟩ (.int .i64 ((rd_T55 (rd_L7 l2_0 x47_2) x53_3).f1))).heap[gb233]? = some (.cells #[.int .i64 ((rd_T55 (rd_L7 l2_0 x47_2) x53_3).f0), .int .i64 ((rd_T55 (rd_L7 l2_0 x47_2) x53_3).f1)] 55 (0, 0))) := ⟨by (with_reducible repeat (first | refine blk_drewN ?_ _ | refine blk_drew ?_ | refine blk_alloc ?_ _)); refine blk_put (cs := #[.int .i64 ((rd_T55 (rd_L7 l2_0 x47_2) x53_3).f0), .int .i64 0]) ?_ 1 _ rfl; (with_reducible repeat (first | refine blk_drewN ?_ _ | refine blk_drew ?_ | refine blk_alloc ?_ _)); refine blk_put (cs := #[.int .i64 0, .int .i64 0]) ?_ 0 _ rfl; (with_reducible repeat (first | refine blk_drewN ?_ _ | refine blk_drew ?_ | refine blk_alloc ?_ _)); exact BK233.out⟩; have n2_ : Aside0 (Below w.heap.size w ((w34.setCell ⟨gb233, 0, none⟩ (.int .i64 ((rd_T55 (rd_L7 l2_0 x47_2) x53_3).f0))).setCell ⟨gb233, 1, none⟩ (.int .i64 ((rd_T55 (rd_L7 l2_0 x47_2) x53_3).f1)))) := ⟨sq_below1 HB.out GE233.out⟩
                    (try clear HO_8)
                    (try clear BK233)
                    (try clear HB)
                    generalize ((w34.setCell ⟨gb233, 0, none⟩ (.int .i64 ((rd_T55 (rd_L7 l2_0 x47_2) x53_3).f0))).setCell ⟨gb233, 1, none⟩ (.int .i64 ((rd_T55 (rd_L7 l2_0 x47_2) x53_3).f1))) = w36 at n0_ n1_ n2_ ⊢; have HO_8 := n0_; have BK233 := n1_; have HB := n2_; clear n0_ n1_ n2_; replace HO_8 := Aside0.mk (Kd.R_drew HO_8.out); replace BK233 := bd_ BK233; replace HB := hd_ HB; have p235 : 0 ≤ ((ji27) : Int) := sq_dec; have q235 : (ji27) < ((rd_L7 l2_0 x47_2).length : Int) := sq_dec; obtain ⟨ad235, e235, hx235_0, hx235_1⟩ := at_T55 HR231_0.out (ji27) p235 q235; have hw235_1 := hx235_1; have hw235_0 := hx235_0; obtain rfl : ad232 = ad235 := (by injection e235); replace hx235_0 := (HB.out.cell (World.block_lt_of_cell? w _ hx235_0)).trans hx235_0; replace hx235_1 := (HB.out.cell (World.block_lt_of_cell? w _ hx235_1)).trans hx235_1; replace p235 := eq_true p235; replace q235 := eq_true q235; refine start_ (n := 23) (S := fun w' => w'.cell? ⟨gb233, 0, none⟩ = some (.int .i64 ((rd_T55 (rd_L7 l2_0 x47_2) x53_3).f0)) ∧ w'.cell? ⟨gb233, 1, none⟩ = some (.int .i64 ((rd_T55 (rd_L7 l2_0 x47_2) x53_3).f1)) ∧ w'.cell? (ad232.add (((ji27)).toNat * 2)) = some (.int .i64 ((rd_T55 (rd_L7 l2_0 x47_2) (ji27)).f0)) ∧ w'.cell? ⟨(ad232.add (((ji27)).toNat * 2)).block, (ad232.add (((ji27)).toNat * 2)).off + 1, none⟩ = some (.int .i64 ((rd_T55 (rd_L7 l2_0 x47_2) (ji27)).f1))) (ds := []) impl_SegOk.b0_ (by kernel_rfl) rfl rfl ⟨cl_ BK233 0, cl_ BK233 1, ((HB.out.cell (World.block_lt_of_cell? w _ hw235_0)).trans hw235_0), ((HB.out.cell (World.block_lt_of_cell? w _ hw235_1)).trans hw235_1)⟩ (fun hHeld => ?_); refine with_tabW impl_SegOk.tab11 impl_SegOk.bits11 (fun HT_ HW_ => ?_); generalize w36.drew = w37 at HO_8 BK233 HB hx235_0 hx235_1 hHeld ⊢; refine pure_y 0 (some 58) impl_SegOk.b1_ (any_of HT_.out (by kernel_rfl)) (h := ?_)
                    refine take_y 1 (some 59) impl_SegOk.b2_ rfl (take_ofW HT_.out HW_.out (by kernel_rfl)) hHeld (Or.inl ⟨by rfl, (by rintro w' ⟨s0, s1, s2, s3⟩; go_simp; with_reducible rfl)⟩) (h := ?_)
                    refine one_ (i := 2) (N := some 60) impl_SegOk.b3_ rfl rfl (one_of HT_.out (by kernel_rfl)) (by decide) (fun K hK => ?_); refine gs_ Tryd.func33 #[.int .i64 a0, .agg #[.int .i64 ((rd_T55 (rd_L7 l2_0 x47_2) x53_3).f0), .int .i64 ((rd_T55 (rd_L7 l2_0 x47_2) x53_3).f1)]] (h := ?_); with_reducible refine (impl_SymOk.calls a0 ((rd_T55 (rd_L7 l2_0 x47_2) x53_3).f0) ((rd_T55 (rd_L7 l2_0 x47_2) x53_3).f1) true _ A24.out).mono ?_
                    rintro e w38 ⟨rfl, hb⟩; refine ⟨_, rfl, ?_⟩; replace HO_8 := Aside0.mk (Kd.R_below (sq_row HO_8.out) hb); replace BK233 := bb_ BK233 hb; replace HB := hb1_ HB hb GE233
                    (try clear hb)
                    (try clear hb2)
                    (try clear hk)
                    (try clear hi)
                    refine hK.out _ _ ⟨cl_ BK233 0, cl_ BK233 1, ((HB.out.cell (World.block_lt_of_cell? w _ hw235_0)).trans hw235_0), ((HB.out.cell (World.block_lt_of_cell? w _ hw235_1)).trans hw235_1)⟩ (fun hHeld => ?_); clear hK K; refine norm_y 60 (h := ?_)
                    refine pure_y 3 (some 61) impl_SegOk.b4_ (any_of HT_.out (by kernel_rfl)) (h := ?_)
                    refine pure_y 4 (some 62) impl_SegOk.b5_ (any_of HT_.out (by kernel_rfl)) (h := ?_)
                    refine pure_y 5 (some 63) impl_SegOk.b6_ (any_of HT_.out (by kernel_rfl)) (h := ?_)
                    refine pure_y 6 (some 64) impl_SegOk.b7_ (any_of HT_.out (by kernel_rfl)) (h := ?_)
                    refine pure_y 7 (some 65) impl_SegOk.b8_ (any_of HT_.out (by kernel_rfl)) (h := ?_)
                    refine pure_y 8 (some 66) impl_SegOk.b9_ (any_of HT_.out (by kernel_rfl)) (h := ?_)
                    refine pure_y 9 (some 67) impl_SegOk.b11_ (any_of HT_.out (by kernel_rfl)) (h := ?_)
                    refine pure_y 10 (some 68) impl_SegOk.b13_ (any_of HT_.out (by kernel_rfl)) (h := ?_)
                    refine pure_y 11 (some 69) impl_SegOk.b14_ (any_of HT_.out (by kernel_rfl)) (h := ?_)
                    refine take_y 12 (some 70) impl_SegOk.b15_ rfl (take_ofW HT_.out HW_.out (by kernel_rfl)) hHeld (Or.inl ⟨by rfl, (by rintro w' ⟨s0, s1, s2, s3⟩; go_simp; with_reducible rfl)⟩) (h := ?_)
                    refine take_y 13 (some 71) impl_SegOk.b16_ rfl (take_ofW HT_.out HW_.out (by kernel_rfl)) hHeld (Or.inl ⟨by rfl, (by rintro w' ⟨s0, s1, s2, s3⟩; go_simp; with_reducible rfl)⟩) (h := ?_)
                    refine one_ (i := 14) (N := some 72) impl_SegOk.b17_ rfl rfl (one_of HT_.out (by kernel_rfl)) (by decide) (fun K hK => ?_); refine goes_ Tryd.func34 (by kernel_rfl) rfl #[.agg #[.int .i64 ((rd_T55 (rd_L7 l2_0 x47_2) (ji27)).f0), .int .i64 ((rd_T55 (rd_L7 l2_0 x47_2) (ji27)).f1)], .agg #[.int .i64 ((rd_T55 (rd_L7 l2_0 x47_2) x53_3).f0), .int .i64 ((rd_T55 (rd_L7 l2_0 x47_2) x53_3).f1)]] (by rfl) rfl rfl (by (try simp only [List.map_toArray, List.map_cons, List.map_nil]); first | done | (simp only [hji27]; rfl) | rfl | (simp only [List.length_drop, List.length_take]; rfl)) ?_; with_reducible refine (impl_SymLess.calls ((rd_T55 (rd_L7 l2_0 x47_2) (ji27)).f0) ((rd_T55 (rd_L7 l2_0 x47_2) (ji27)).f1) ((rd_T55 (rd_L7 l2_0 x47_2) x53_3).f0) ((rd_T55 (rd_L7 l2_0 x47_2) x53_3).f1) true _ A30.out).mono ?_
                    rintro e w39 ⟨rfl, hb⟩; refine ⟨_, rfl, ?_⟩; replace HO_8 := Aside0.mk (Kd.R_below (sq_row HO_8.out) hb); replace BK233 := bb_ BK233 hb; replace HB := hb1_ HB hb GE233
                    (try clear hb)
                    (try clear hb2)
                    (try clear hk)
                    (try clear hi)
                    obtain ⟨Ao40, co40, eo40⟩ := Kd.R_slice HO_8.out
                    (first | subst eo40 | (injection eo40 with f1_ f2_ f3_; have f4_ := f1_.symm; have f5_ := f3_.symm; clear f1_ f2_ f3_; subst f4_; subst f5_))
                    refine hK.out _ _ ⟨cl_ BK233 0, cl_ BK233 1, ((HB.out.cell (World.block_lt_of_cell? w _ hw235_0)).trans hw235_0), ((HB.out.cell (World.block_lt_of_cell? w _ hw235_1)).trans hw235_1)⟩ (fun hHeld => ?_); clear hK K; refine norm_y 72 (h := ?_)
                    refine pure_y 15 (some 73) impl_SegOk.b18_ (any_of HT_.out (by kernel_rfl)) (h := ?_)
                    refine pure_y 16 (some 74) impl_SegOk.b19_ (any_of HT_.out (by kernel_rfl)) (h := ?_)
                    refine pure_y 17 (some 75) impl_SegOk.b20_ (any_of HT_.out (by kernel_rfl)) (h := ?_)
                    refine pure_y 18 (some 76) impl_SegOk.b21_ (any_of HT_.out (by kernel_rfl)) (h := ?_)
                    refine pure_y 19 (some 77) impl_SegOk.b22_ (any_of HT_.out (by kernel_rfl)) (h := ?_)
                    refine take_y 20 (some 78) impl_SegOk.b23_ rfl (take_ofW HT_.out HW_.out (by kernel_rfl)) hHeld (Or.inl ⟨by rfl, (by rintro w' ⟨s0, s1, s2, s3⟩; go_simp; with_reducible rfl)⟩) (h := ?_)
                    refine one_ (i := 21) (N := some 79) impl_SegOk.b24_ rfl rfl (one_of HT_.out (by kernel_rfl)) (by decide) (fun K hK => ?_); refine gs_ Tryd.func35 #[.slice Ao40 x8_2.length co40, .agg #[.int .i64 ((rd_T55 (rd_L7 l2_0 x47_2) x53_3).f0), .int .i64 ((rd_T55 (rd_L7 l2_0 x47_2) x53_3).f1)]] (h := ?_); with_reducible refine (impl_Sym_35.calls k3 _ _ x8_2 ((rd_T55 (rd_L7 l2_0 x47_2) x53_3).f0) ((rd_T55 (rd_L7 l2_0 x47_2) x53_3).f1) true _ ?side1 ?side2 A32.out).mono ?_
                    (case side1 => exact sq_c ((Kd.R_reads' HO_8.out).2.2))
                    (case side2 => exact (Kd.R_reads' HO_8.out).2.1)
                    rintro e w41 ⟨rfl, hb⟩; refine ⟨_, rfl, ?_⟩; replace HO_8 := Aside0.mk (Kd.R_below (sq_row HO_8.out) hb); replace BK233 := bb_ BK233 hb; replace HB := hb1_ HB hb GE233
                    (try clear hb)
                    (try clear hb2)
                    (try clear hk)
                    (try clear hi)
                    refine hK.out _ _ ⟨cl_ BK233 0, cl_ BK233 1, ((HB.out.cell (World.block_lt_of_cell? w _ hw235_0)).trans hw235_0), ((HB.out.cell (World.block_lt_of_cell? w _ hw235_1)).trans hw235_1)⟩ (fun hHeld => ?_); clear hK K; refine norm_y 79 (h := ?_)
                    refine pure_y 22 (some 80) impl_SegOk.b25_ (any_of HT_.out (by kernel_rfl)) (h := ?_)
                    refine done_ (done_of HT_.out (by kernel_rfl)) ?_
                    try go_wp2
                    go_ret
                    exact ⟨by first | rfl | (simp [errW_none, errW_some] <;> rfl) | (simp only [← hji27]; first | rfl | (simp [errW_none, errW_some] <;> rfl)) | (simp [*, errW_none, errW_some] <;> rfl), sq_below1 HB.out GE233.out⟩
                   ·
                    replace c33 := Bool.eq_false_iff.mpr c33; subst c33; have H1 := ifn_ H
                    clear H; have H := H1; clear H1; have H' := Aside0.mk H; clear H; have p232 : 0 ≤ (x53_3 : Int) := sq_dec; have q232 : x53_3 < ((rd_L7 l2_0 x47_2).length : Int) := sq_dec; obtain ⟨ad232, e232, hx232_0, hx232_1⟩ := at_T55 HR231_0.out x53_3 p232 q232; cases e232; replace hx232_0 := (HB.out.cell (World.block_lt_of_cell? w _ hx232_0)).trans hx232_0; replace hx232_1 := (HB.out.cell (World.block_lt_of_cell? w _ hx232_1)).trans hx232_1; replace p232 := eq_true p232; replace q232 := eq_true q232
                    try go_wp2_with (first | ((with_reducible refine gate_dst (N := 12) rfl ?_); (try (refine gate_guard (by rfl) ?_; dsimp only)); refine box_y 12 #[.int .i64 0, .int .i64 0] 55 (h := ?_); intro gb233 hg w42 hbox hb; have n0_ := Aside0.mk (Kd.R_below (Kd.R_elderB (sq_row HO_8.out) gb233 (Nat.le_of_eq hg.symm)) hb); have n1_ := Aside0.mk (blk_below (sq_blk BK225.out) hb); have n2_ := Aside0.mk (below_step (sq_below1 HB.out GE225.out) hb); have n3_ := Aside0.mk (hbox); have n4_ := ge_ hg (below_size (sq_below1 HB.out GE225.out)); have n5_ := ge_ hg (below_size (sq_below1 HB.out GE225.out)); have n6_ := nb_ hg BK225; have n7_ := Aside0.mk (Ne.symm n6_.out); clear HO_8; clear BK225; clear HB; have HO_8 := n0_; have BK225 := n1_; have HB := n2_; have BK233 := n3_; have GW233 := n4_; have GE233 := n5_; have NB225_233 := n6_; have NB233_225 := n7_; clear n0_ n1_ n2_ n3_ n4_ n5_ n6_ n7_; clear hb hbox hg; have hnb43 := NB233_225.out; have hnc43 := NB225_233.out; have hcz44_0 := cl_ (v := .int .i64 0) BK233 0; have hcz44_1 := cl_ (v := .int .i64 0) BK233 1; have hfz44_0 := blk_frozen BK233.out 0; have hfz44_1 := blk_frozen BK233.out 1))
                    have n0_ : Aside0 (Kd.R k55 55 ((w42.setCell ⟨gb233, 0, none⟩ (.int .i64 ((rd_T55 (rd_L7 l2_0 x47_2) x53_3).f0))).setCell ⟨gb233, 1, none⟩ (.int .i64 ((rd_T55 (rd_L7 l2_0 x47_2) x53_3).f1))) w.heap.size (fun k_ => k_ ≠ gb233) u8 x8_2) := ⟨by (with_reducible repeat (first | apply Kd.R_alloc | apply Kd.R_drewN | apply Kd.R_drew)); exact Kd.R_mono (Kd.R_far (p := ⟨gb233, 1, none⟩) (Kd.R_far (p := ⟨gb233, 0, none⟩) (Kd.R_mono HO_8.out (fun k_ hk => (⟨hk, hk.2⟩ : _ ∧ k_ ≠ gb233))) (fun _ hk => hk.2) (.int .i64 ((rd_T55 (rd_L7 l2_0 x47_2) x53_3).f0))) (fun _ hk => hk.2) (.int .i64 ((rd_T55 (rd_L7 l2_0 x47_2) x53_3).f1))) (fun _ hk => hk.1.2)⟩; have n1_ : Aside0 (((w42.setCell ⟨gb233, 0, none⟩ (.int .i64 ((rd_T55 (rd_L7 l2_0 x47_2) x53_3).f0))).setCell ⟨gb233, 1, none⟩ (.int .i64 ((rd_T55 (rd_L7 l2_0 x47_2) x53_3).f1))).heap[gb225]? = some (.cells #[.slice (some ad231) l2_0.length c2_0, .slice A2_1 l2_1.length c2_1, .slice A2_2 l2_2.length c2_2] 32 (0, 0))) := bf_ BK225 NB225_233; have n2_ : Aside0 (((w42.setCell ⟨gb233, 0, none⟩ (.int .i64 ((rd_T55 (rd_L7 l2_0 x47_2) x53_3).f0))).setCell ⟨gb233, 1, none⟩ (.int .i64 ((rd_T55 (rd_L7 l2_0 x47_2) x53_3).f1))).heap[gb233]? = some (.cells #[.int .i64 ((rd_T55 (rd_L7 l2_0 x47_2) x53_3).f0), .int .i64 ((rd_T55 (rd_L7 l2_0 x47_2) x53_3).f1)] 55 (0, 0))) := ⟨by (with_reducible repeat (first | refine blk_drewN ?_ _ | refine blk_drew ?_ | refine blk_alloc ?_ _)); refine blk_put (cs := #[.int .i64 ((rd_T55 (rd_L7 l2_0 x47_2) x53_3).f0), .int .i64 0]) ?_ 1 _ rfl; (with_reducible repeat (first | refine blk_drewN ?_ _ | refine blk_drew ?_ | refine blk_alloc ?_ _)); refine blk_put (cs := #[.int .i64 0, .int .i64 0]) ?_ 0 _ rfl; (with_reducible repeat (first | refine blk_drewN ?_ _ | refine blk_drew ?_ | refine blk_alloc ?_ _)); exact BK233.out⟩; have n3_ : Aside0 (Below w.heap.size w ((w42.setCell ⟨gb233, 0, none⟩ (.int .i64 ((rd_T55 (rd_L7 l2_0 x47_2) x53_3).f0))).setCell ⟨gb233, 1, none⟩ (.int .i64 ((rd_T55 (rd_L7 l2_0 x47_2) x53_3).f1)))) := ⟨sq_below2 HB.out GE225.out GE233.out⟩
                    (try clear HO_8)
                    (try clear BK225)
                    (try clear BK233)
                    (try clear HB)
                    generalize ((w42.setCell ⟨gb233, 0, none⟩ (.int .i64 ((rd_T55 (rd_L7 l2_0 x47_2) x53_3).f0))).setCell ⟨gb233, 1, none⟩ (.int .i64 ((rd_T55 (rd_L7 l2_0 x47_2) x53_3).f1))) = w45 at n0_ n1_ n2_ n3_ ⊢; have HO_8 := n0_; have BK225 := n1_; have BK233 := n2_; have HB := n3_; clear n0_ n1_ n2_ n3_; replace HO_8 := Aside0.mk (Kd.R_drew HO_8.out); replace BK225 := bd_ BK225; replace BK233 := bd_ BK233; replace HB := hd_ HB; have p235 : 0 ≤ ((ji27) : Int) := sq_dec; have q235 : (ji27) < ((rd_L7 l2_0 x47_2).length : Int) := sq_dec; obtain ⟨ad235, e235, hx235_0, hx235_1⟩ := at_T55 HR231_0.out (ji27) p235 q235; have hw235_1 := hx235_1; have hw235_0 := hx235_0; obtain rfl : ad232 = ad235 := (by injection e235); replace hx235_0 := (HB.out.cell (World.block_lt_of_cell? w _ hx235_0)).trans hx235_0; replace hx235_1 := (HB.out.cell (World.block_lt_of_cell? w _ hx235_1)).trans hx235_1; replace p235 := eq_true p235; replace q235 := eq_true q235; refine start_ (n := 23) (S := fun w' => w'.cell? ⟨gb233, 0, none⟩ = some (.int .i64 ((rd_T55 (rd_L7 l2_0 x47_2) x53_3).f0)) ∧ w'.cell? ⟨gb233, 1, none⟩ = some (.int .i64 ((rd_T55 (rd_L7 l2_0 x47_2) x53_3).f1)) ∧ w'.cell? (ad232.add (((ji27)).toNat * 2)) = some (.int .i64 ((rd_T55 (rd_L7 l2_0 x47_2) (ji27)).f0)) ∧ w'.cell? ⟨(ad232.add (((ji27)).toNat * 2)).block, (ad232.add (((ji27)).toNat * 2)).off + 1, none⟩ = some (.int .i64 ((rd_T55 (rd_L7 l2_0 x47_2) (ji27)).f1))) (ds := []) impl_SegOk.b0_ (by kernel_rfl) rfl rfl ⟨cl_ BK233 0, cl_ BK233 1, ((HB.out.cell (World.block_lt_of_cell? w _ hw235_0)).trans hw235_0), ((HB.out.cell (World.block_lt_of_cell? w _ hw235_1)).trans hw235_1)⟩ (fun hHeld => ?_); refine with_tabW impl_SegOk.tab11 impl_SegOk.bits11 (fun HT_ HW_ => ?_); generalize w45.drew = w46 at HO_8 BK225 BK233 HB hx235_0 hx235_1 hHeld ⊢; refine pure_y 0 (some 58) impl_SegOk.b1_ (any_of HT_.out (by kernel_rfl)) (h := ?_)
                    refine take_y 1 (some 59) impl_SegOk.b2_ rfl (take_ofW HT_.out HW_.out (by kernel_rfl)) hHeld (Or.inl ⟨by rfl, (by rintro w' ⟨s0, s1, s2, s3⟩; go_simp; with_reducible rfl)⟩) (h := ?_)
                    refine one_ (i := 2) (N := some 60) impl_SegOk.b3_ rfl rfl (one_of HT_.out (by kernel_rfl)) (by decide) (fun K hK => ?_); refine gs_ Tryd.func33 #[.int .i64 a0, .agg #[.int .i64 ((rd_T55 (rd_L7 l2_0 x47_2) x53_3).f0), .int .i64 ((rd_T55 (rd_L7 l2_0 x47_2) x53_3).f1)]] (h := ?_); with_reducible refine (impl_SymOk.calls a0 ((rd_T55 (rd_L7 l2_0 x47_2) x53_3).f0) ((rd_T55 (rd_L7 l2_0 x47_2) x53_3).f1) true _ A24.out).mono ?_
                    rintro e w47 ⟨rfl, hb⟩; refine ⟨_, rfl, ?_⟩; replace HO_8 := Aside0.mk (Kd.R_below (sq_row HO_8.out) hb); replace BK225 := bb_ BK225 hb; replace BK233 := bb_ BK233 hb; replace HB := hb2_ HB hb GE225 GE233
                    (try clear hb)
                    (try clear hb2)
                    (try clear hk)
                    (try clear hi)
                    refine hK.out _ _ ⟨cl_ BK233 0, cl_ BK233 1, ((HB.out.cell (World.block_lt_of_cell? w _ hw235_0)).trans hw235_0), ((HB.out.cell (World.block_lt_of_cell? w _ hw235_1)).trans hw235_1)⟩ (fun hHeld => ?_); clear hK K; refine norm_y 60 (h := ?_)
                    refine pure_y 3 (some 61) impl_SegOk.b4_ (any_of HT_.out (by kernel_rfl)) (h := ?_)
                    refine pure_y 4 (some 62) impl_SegOk.b5_ (any_of HT_.out (by kernel_rfl)) (h := ?_)
                    refine pure_y 5 (some 63) impl_SegOk.b6_ (any_of HT_.out (by kernel_rfl)) (h := ?_)
                    refine pure_y 6 (some 64) impl_SegOk.b7_ (any_of HT_.out (by kernel_rfl)) (h := ?_)
                    refine pure_y 7 (some 65) impl_SegOk.b8_ (any_of HT_.out (by kernel_rfl)) (h := ?_)
                    refine pure_y 8 (some 66) impl_SegOk.b9_ (any_of HT_.out (by kernel_rfl)) (h := ?_)
                    refine pure_y 9 (some 67) impl_SegOk.b11_ (any_of HT_.out (by kernel_rfl)) (h := ?_)
                    refine pure_y 10 (some 68) impl_SegOk.b13_ (any_of HT_.out (by kernel_rfl)) (h := ?_)
                    refine pure_y 11 (some 69) impl_SegOk.b14_ (any_of HT_.out (by kernel_rfl)) (h := ?_)
                    refine take_y 12 (some 70) impl_SegOk.b15_ rfl (take_ofW HT_.out HW_.out (by kernel_rfl)) hHeld (Or.inl ⟨by rfl, (by rintro w' ⟨s0, s1, s2, s3⟩; go_simp; with_reducible rfl)⟩) (h := ?_)
                    refine take_y 13 (some 71) impl_SegOk.b16_ rfl (take_ofW HT_.out HW_.out (by kernel_rfl)) hHeld (Or.inl ⟨by rfl, (by rintro w' ⟨s0, s1, s2, s3⟩; go_simp; with_reducible rfl)⟩) (h := ?_)
                    refine one_ (i := 14) (N := some 72) impl_SegOk.b17_ rfl rfl (one_of HT_.out (by kernel_rfl)) (by decide) (fun K hK => ?_); refine goes_ Tryd.func34 (by kernel_rfl) rfl #[.agg #[.int .i64 ((rd_T55 (rd_L7 l2_0 x47_2) (ji27)).f0), .int .i64 ((rd_T55 (rd_L7 l2_0 x47_2) (ji27)).f1)], .agg #[.int .i64 ((rd_T55 (rd_L7 l2_0 x47_2) x53_3).f0), .int .i64 ((rd_T55 (rd_L7 l2_0 x47_2) x53_3).f1)]] (by rfl) rfl rfl (by (try simp only [List.map_toArray, List.map_cons, List.map_nil]); first | done | (simp only [hji27]; rfl) | rfl | (simp only [List.length_drop, List.length_take]; rfl)) ?_; with_reducible refine (impl_SymLess.calls ((rd_T55 (rd_L7 l2_0 x47_2) (ji27)).f0) ((rd_T55 (rd_L7 l2_0 x47_2) (ji27)).f1) ((rd_T55 (rd_L7 l2_0 x47_2) x53_3).f0) ((rd_T55 (rd_L7 l2_0 x47_2) x53_3).f1) true _ A30.out).mono ?_
                    rintro e w48 ⟨rfl, hb⟩; refine ⟨_, rfl, ?_⟩; replace HO_8 := Aside0.mk (Kd.R_below (sq_row HO_8.out) hb); replace BK225 := bb_ BK225 hb; replace BK233 := bb_ BK233 hb; replace HB := hb2_ HB hb GE225 GE233
                    (try clear hb)
                    (try clear hb2)
                    (try clear hk)
                    (try clear hi)
                    obtain ⟨Ao49, co49, eo49⟩ := Kd.R_slice HO_8.out
                    (first | subst eo49 | (injection eo49 with f1_ f2_ f3_; have f4_ := f1_.symm; have f5_ := f3_.symm; clear f1_ f2_ f3_; subst f4_; subst f5_))
                    refine hK.out _ _ ⟨cl_ BK233 0, cl_ BK233 1, ((HB.out.cell (World.block_lt_of_cell? w _ hw235_0)).trans hw235_0), ((HB.out.cell (World.block_lt_of_cell? w _ hw235_1)).trans hw235_1)⟩ (fun hHeld => ?_); clear hK K; refine norm_y 72 (h := ?_)
                    refine pure_y 15 (some 73) impl_SegOk.b18_ (any_of HT_.out (by kernel_rfl)) (h := ?_)
                    refine pure_y 16 (some 74) impl_SegOk.b19_ (any_of HT_.out (by kernel_rfl)) (h := ?_)
                    refine pure_y 17 (some 75) impl_SegOk.b20_ (any_of HT_.out (by kernel_rfl)) (h := ?_)
                    refine pure_y 18 (some 76) impl_SegOk.b21_ (any_of HT_.out (by kernel_rfl)) (h := ?_)
                    refine pure_y 19 (some 77) impl_SegOk.b22_ (any_of HT_.out (by kernel_rfl)) (h := ?_)
                    refine take_y 20 (some 78) impl_SegOk.b23_ rfl (take_ofW HT_.out HW_.out (by kernel_rfl)) hHeld (Or.inl ⟨by rfl, (by rintro w' ⟨s0, s1, s2, s3⟩; go_simp; with_reducible rfl)⟩) (h := ?_)
                    refine one_ (i := 21) (N := some 79) impl_SegOk.b24_ rfl rfl (one_of HT_.out (by kernel_rfl)) (by decide) (fun K hK => ?_); refine gs_ Tryd.func35 #[.slice Ao49 x8_2.length co49, .agg #[.int .i64 ((rd_T55 (rd_L7 l2_0 x47_2) x53_3).f0), .int .i64 ((rd_T55 (rd_L7 l2_0 x47_2) x53_3).f1)]] (h := ?_); with_reducible refine (impl_Sym_35.calls k3 _ _ x8_2 ((rd_T55 (rd_L7 l2_0 x47_2) x53_3).f0) ((rd_T55 (rd_L7 l2_0 x47_2) x53_3).f1) false _ ?side1 ?side2 A32.out).mono ?_
                    (case side1 => exact sq_c ((Kd.R_reads' HO_8.out).2.2))
                    (case side2 => exact (Kd.R_reads' HO_8.out).2.1)
                    rintro e w50 ⟨rfl, hb⟩; refine ⟨_, rfl, ?_⟩; replace HO_8 := Aside0.mk (Kd.R_below (sq_row HO_8.out) hb); replace BK225 := bb_ BK225 hb; replace BK233 := bb_ BK233 hb; replace HB := hb2_ HB hb GE225 GE233
                    (try clear hb)
                    (try clear hb2)
                    (try clear hk)
                    (try clear hi)
                    refine hK.out _ _ ⟨cl_ BK233 0, cl_ BK233 1, ((HB.out.cell (World.block_lt_of_cell? w _ hw235_0)).trans hw235_0), ((HB.out.cell (World.block_lt_of_cell? w _ hw235_1)).trans hw235_1)⟩ (fun hHeld => ?_); clear hK K; refine norm_y 79 (h := ?_)
                    refine pure_y 22 (some 80) impl_SegOk.b25_ (any_of HT_.out (by kernel_rfl)) (h := ?_)
                    refine done_ (done_of HT_.out (by kernel_rfl)) ?_
                    try go_wp2
                    go_roundg k3
                    case measure => have := HJ3.out; have := HK2.out; have := HK3.out; omega
                    case rel => exact ⟨(wrap64 (x53_3 + 1)), (by first | rfl | (simp; done) | (simp [*]; done)), H', ⟨by have := HJ3.out; have := HK2.out; have := HK3.out; omega⟩, ⟨by (with_reducible repeat (first | apply Kd.R_alloc | apply Kd.R_drewN | apply Kd.R_drew)); exact Kd.R_mono HO_8.out (fun _ hk => trivial)⟩, bk_ BK225, ⟨sq_below2 HB.out GE225.out GE233.out⟩⟩
                  ·
                   replace c31 := Bool.eq_false_iff.mpr c31; subst c31; have H1 := ifn_ H
                   clear H; have H := H1; clear H1; obtain rfl := Option.some.inj H; have p232 : 0 ≤ (x53_3 : Int) := sq_dec; have q232 : x53_3 < ((rd_L7 l2_0 x47_2).length : Int) := sq_dec; obtain ⟨ad232, e232, hx232_0, hx232_1⟩ := at_T55 HR231_0.out x53_3 p232 q232; cases e232; replace hx232_0 := (HB.out.cell (World.block_lt_of_cell? w _ hx232_0)).trans hx232_0; replace hx232_1 := (HB.out.cell (World.block_lt_of_cell? w _ hx232_1)).trans hx232_1; replace p232 := eq_true p232; replace q232 := eq_true q232
                   try go_wp2_with (first | ((with_reducible refine gate_dst (N := 12) rfl ?_); (try (refine gate_guard (by rfl) ?_; dsimp only)); refine box_y 12 #[.int .i64 0, .int .i64 0] 55 (h := ?_); intro gb233 hg w51 hbox hb; have n0_ := Aside0.mk (Kd.R_below (Kd.R_elderB (sq_row HO_8.out) gb233 (Nat.le_of_eq hg.symm)) hb); have n1_ := Aside0.mk (below_step (sq_below HB.out) hb); have n2_ := Aside0.mk (hbox); have n3_ := ge_ hg (below_size (sq_below HB.out)); have n4_ := ge_ hg (below_size (sq_below HB.out)); clear HO_8; clear HB; have HO_8 := n0_; have HB := n1_; have BK233 := n2_; have GW233 := n3_; have GE233 := n4_; clear n0_ n1_ n2_ n3_ n4_; clear hb hbox hg; have hcz52_0 := cl_ (v := .int .i64 0) BK233 0; have hcz52_1 := cl_ (v := .int .i64 0) BK233 1; have hfz52_0 := blk_frozen BK233.out 0; have hfz52_1 := blk_frozen BK233.out 1))
                   have n0_ : Aside0 (Kd.R k55 55 ((w51.setCell ⟨gb233, 0, none⟩ (.int .i64 ((rd_T55 (rd_L7 l2_0 x47_2) x53_3).f0))).setCell ⟨gb233, 1, none⟩ (.int .i64 ((rd_T55 (rd_L7 l2_0 x47_2) x53_3).f1))) w.heap.size (fun k_ => k_ ≠ gb233) u8 x8_2) := ⟨by (with_reducible repeat (first | apply Kd.R_alloc | apply Kd.R_drewN | apply Kd.R_drew)); exact Kd.R_mono (Kd.R_far (p := ⟨gb233, 1, none⟩) (Kd.R_far (p := ⟨gb233, 0, none⟩) (Kd.R_mono HO_8.out (fun k_ hk => (⟨hk, hk.2⟩ : _ ∧ k_ ≠ gb233))) (fun _ hk => hk.2) (.int .i64 ((rd_T55 (rd_L7 l2_0 x47_2) x53_3).f0))) (fun _ hk => hk.2) (.int .i64 ((rd_T55 (rd_L7 l2_0 x47_2) x53_3).f1))) (fun _ hk => hk.1.2)⟩; have n1_ : Aside0 (((w51.setCell ⟨gb233, 0, none⟩ (.int .i64 ((rd_T55 (rd_L7 l2_0 x47_2) x53_3).f0))).setCell ⟨gb233, 1, none⟩ (.int .i64 ((rd_T55 (rd_L7 l2_0 x47_2) x53_3).f1))).heap[gb233]? = some (.cells #[.int .i64 ((rd_T55 (rd_L7 l2_0 x47_2) x53_3).f0), .int .i64 ((rd_T55 (rd_L7 l2_0 x47_2) x53_3).f1)] 55 (0, 0))) := ⟨by (with_reducible repeat (first | refine blk_drewN ?_ _ | refine blk_drew ?_ | refine blk_alloc ?_ _)); refine blk_put (cs := #[.int .i64 ((rd_T55 (rd_L7 l2_0 x47_2) x53_3).f0), .int .i64 0]) ?_ 1 _ rfl; (with_reducible repeat (first | refine blk_drewN ?_ _ | refine blk_drew ?_ | refine blk_alloc ?_ _)); refine blk_put (cs := #[.int .i64 0, .int .i64 0]) ?_ 0 _ rfl; (with_reducible repeat (first | refine blk_drewN ?_ _ | refine blk_drew ?_ | refine blk_alloc ?_ _)); exact BK233.out⟩; have n2_ : Aside0 (Below w.heap.size w ((w51.setCell ⟨gb233, 0, none⟩ (.int .i64 ((rd_T55 (rd_L7 l2_0 x47_2) x53_3).f0))).setCell ⟨gb233, 1, none⟩ (.int .i64 ((rd_T55 (rd_L7 l2_0 x47_2) x53_3).f1)))) := ⟨sq_below1 HB.out GE233.out⟩
                   (try clear HO_8)
                   (try clear BK233)
                   (try clear HB)
                   generalize ((w51.setCell ⟨gb233, 0, none⟩ (.int .i64 ((rd_T55 (rd_L7 l2_0 x47_2) x53_3).f0))).setCell ⟨gb233, 1, none⟩ (.int .i64 ((rd_T55 (rd_L7 l2_0 x47_2) x53_3).f1))) = w53 at n0_ n1_ n2_ ⊢; have HO_8 := n0_; have BK233 := n1_; have HB := n2_; clear n0_ n1_ n2_; replace HO_8 := Aside0.mk (Kd.R_drew HO_8.out); replace BK233 := bd_ BK233; replace HB := hd_ HB; have p235 : 0 ≤ ((ji27) : Int) := sq_dec; have q235 : (ji27) < ((rd_L7 l2_0 x47_2).length : Int) := sq_dec; obtain ⟨ad235, e235, hx235_0, hx235_1⟩ := at_T55 HR231_0.out (ji27) p235 q235; have hw235_1 := hx235_1; have hw235_0 := hx235_0; obtain rfl : ad232 = ad235 := (by injection e235); replace hx235_0 := (HB.out.cell (World.block_lt_of_cell? w _ hx235_0)).trans hx235_0; replace hx235_1 := (HB.out.cell (World.block_lt_of_cell? w _ hx235_1)).trans hx235_1; replace p235 := eq_true p235; replace q235 := eq_true q235; refine start_ (n := 23) (S := fun w' => w'.cell? ⟨gb233, 0, none⟩ = some (.int .i64 ((rd_T55 (rd_L7 l2_0 x47_2) x53_3).f0)) ∧ w'.cell? ⟨gb233, 1, none⟩ = some (.int .i64 ((rd_T55 (rd_L7 l2_0 x47_2) x53_3).f1)) ∧ w'.cell? (ad232.add (((ji27)).toNat * 2)) = some (.int .i64 ((rd_T55 (rd_L7 l2_0 x47_2) (ji27)).f0)) ∧ w'.cell? ⟨(ad232.add (((ji27)).toNat * 2)).block, (ad232.add (((ji27)).toNat * 2)).off + 1, none⟩ = some (.int .i64 ((rd_T55 (rd_L7 l2_0 x47_2) (ji27)).f1))) (ds := []) impl_SegOk.b0_ (by kernel_rfl) rfl rfl ⟨cl_ BK233 0, cl_ BK233 1, ((HB.out.cell (World.block_lt_of_cell? w _ hw235_0)).trans hw235_0), ((HB.out.cell (World.block_lt_of_cell? w _ hw235_1)).trans hw235_1)⟩ (fun hHeld => ?_); refine with_tabW impl_SegOk.tab11 impl_SegOk.bits11 (fun HT_ HW_ => ?_); generalize w53.drew = w54 at HO_8 BK233 HB hx235_0 hx235_1 hHeld ⊢; refine pure_y 0 (some 58) impl_SegOk.b1_ (any_of HT_.out (by kernel_rfl)) (h := ?_)
                   refine take_y 1 (some 59) impl_SegOk.b2_ rfl (take_ofW HT_.out HW_.out (by kernel_rfl)) hHeld (Or.inl ⟨by rfl, (by rintro w' ⟨s0, s1, s2, s3⟩; go_simp; with_reducible rfl)⟩) (h := ?_)
                   refine one_ (i := 2) (N := some 60) impl_SegOk.b3_ rfl rfl (one_of HT_.out (by kernel_rfl)) (by decide) (fun K hK => ?_); refine gs_ Tryd.func33 #[.int .i64 a0, .agg #[.int .i64 ((rd_T55 (rd_L7 l2_0 x47_2) x53_3).f0), .int .i64 ((rd_T55 (rd_L7 l2_0 x47_2) x53_3).f1)]] (h := ?_); with_reducible refine (impl_SymOk.calls a0 ((rd_T55 (rd_L7 l2_0 x47_2) x53_3).f0) ((rd_T55 (rd_L7 l2_0 x47_2) x53_3).f1) true _ A24.out).mono ?_
                   rintro e w55 ⟨rfl, hb⟩; refine ⟨_, rfl, ?_⟩; replace HO_8 := Aside0.mk (Kd.R_below (sq_row HO_8.out) hb); replace BK233 := bb_ BK233 hb; replace HB := hb1_ HB hb GE233
                   (try clear hb)
                   (try clear hb2)
                   (try clear hk)
                   (try clear hi)
                   refine hK.out _ _ ⟨cl_ BK233 0, cl_ BK233 1, ((HB.out.cell (World.block_lt_of_cell? w _ hw235_0)).trans hw235_0), ((HB.out.cell (World.block_lt_of_cell? w _ hw235_1)).trans hw235_1)⟩ (fun hHeld => ?_); clear hK K; refine norm_y 60 (h := ?_)
                   refine pure_y 3 (some 61) impl_SegOk.b4_ (any_of HT_.out (by kernel_rfl)) (h := ?_)
                   refine pure_y 4 (some 62) impl_SegOk.b5_ (any_of HT_.out (by kernel_rfl)) (h := ?_)
                   refine pure_y 5 (some 63) impl_SegOk.b6_ (any_of HT_.out (by kernel_rfl)) (h := ?_)
                   refine pure_y 6 (some 64) impl_SegOk.b7_ (any_of HT_.out (by kernel_rfl)) (h := ?_)
                   refine pure_y 7 (some 65) impl_SegOk.b8_ (any_of HT_.out (by kernel_rfl)) (h := ?_)
                   refine pure_y 8 (some 66) impl_SegOk.b9_ (any_of HT_.out (by kernel_rfl)) (h := ?_)
                   refine pure_y 9 (some 67) impl_SegOk.b11_ (any_of HT_.out (by kernel_rfl)) (h := ?_)
                   refine pure_y 10 (some 68) impl_SegOk.b13_ (any_of HT_.out (by kernel_rfl)) (h := ?_)
                   refine pure_y 11 (some 69) impl_SegOk.b14_ (any_of HT_.out (by kernel_rfl)) (h := ?_)
                   refine take_y 12 (some 70) impl_SegOk.b15_ rfl (take_ofW HT_.out HW_.out (by kernel_rfl)) hHeld (Or.inl ⟨by rfl, (by rintro w' ⟨s0, s1, s2, s3⟩; go_simp; with_reducible rfl)⟩) (h := ?_)
                   refine take_y 13 (some 71) impl_SegOk.b16_ rfl (take_ofW HT_.out HW_.out (by kernel_rfl)) hHeld (Or.inl ⟨by rfl, (by rintro w' ⟨s0, s1, s2, s3⟩; go_simp; with_reducible rfl)⟩) (h := ?_)
                   refine one_ (i := 14) (N := some 72) impl_SegOk.b17_ rfl rfl (one_of HT_.out (by kernel_rfl)) (by decide) (fun K hK => ?_); refine goes_ Tryd.func34 (by kernel_rfl) rfl #[.agg #[.int .i64 ((rd_T55 (rd_L7 l2_0 x47_2) (ji27)).f0), .int .i64 ((rd_T55 (rd_L7 l2_0 x47_2) (ji27)).f1)], .agg #[.int .i64 ((rd_T55 (rd_L7 l2_0 x47_2) x53_3).f0), .int .i64 ((rd_T55 (rd_L7 l2_0 x47_2) x53_3).f1)]] (by rfl) rfl rfl (by (try simp only [List.map_toArray, List.map_cons, List.map_nil]); first | done | (simp only [hji27]; rfl) | rfl | (simp only [List.length_drop, List.length_take]; rfl)) ?_; with_reducible refine (impl_SymLess.calls ((rd_T55 (rd_L7 l2_0 x47_2) (ji27)).f0) ((rd_T55 (rd_L7 l2_0 x47_2) (ji27)).f1) ((rd_T55 (rd_L7 l2_0 x47_2) x53_3).f0) ((rd_T55 (rd_L7 l2_0 x47_2) x53_3).f1) false _ A30.out).mono ?_
                   rintro e w56 ⟨rfl, hb⟩; refine ⟨_, rfl, ?_⟩; replace HO_8 := Aside0.mk (Kd.R_below (sq_row HO_8.out) hb); replace BK233 := bb_ BK233 hb; replace HB := hb1_ HB hb GE233
                   (try clear hb)
                   (try clear hb2)
                   (try clear hk)
                   (try clear hi)
                   refine hK.out _ _ ⟨cl_ BK233 0, cl_ BK233 1, ((HB.out.cell (World.block_lt_of_cell? w _ hw235_0)).trans hw235_0), ((HB.out.cell (World.block_lt_of_cell? w _ hw235_1)).trans hw235_1)⟩ (fun hHeld => ?_); clear hK K; refine norm_y 72 (h := ?_)
                   refine pure_y 15 (some 73) impl_SegOk.b18_ (any_of HT_.out (by kernel_rfl)) (h := ?_)
                   refine pure_y 16 (some 74) impl_SegOk.b19_ (any_of HT_.out (by kernel_rfl)) (h := ?_)
                   refine pure_y 17 (some 75) impl_SegOk.b20_ (any_of HT_.out (by kernel_rfl)) (h := ?_)
                   refine pure_y 18 (some 76) impl_SegOk.b21_ (any_of HT_.out (by kernel_rfl)) (h := ?_)
                   refine pure_n 19 (some 77) impl_SegOk.b22_ (any_of HT_.out (by kernel_rfl)) (h := ?_)
                   refine pure_n 20 (some 78) impl_SegOk.b23_ (any_of HT_.out (by kernel_rfl)) (h := ?_)
                   refine pure_n 21 (some 79) impl_SegOk.b24_ (any_of HT_.out (by kernel_rfl)) (h := ?_)
                   refine pure_y 22 (some 80) impl_SegOk.b25_ (any_of HT_.out (by kernel_rfl)) (h := ?_)
                   refine done_ (done_of HT_.out (by kernel_rfl)) ?_
                   try go_wp2
                   go_ret
                   exact ⟨by first | rfl | (simp [errW_none, errW_some] <;> rfl) | (simp only [← hji27]; first | rfl | (simp [errW_none, errW_some] <;> rfl)) | (simp [*, errW_none, errW_some] <;> rfl), sq_below1 HB.out GE233.out⟩
                 ·
                  rw [if_neg c29] at H; exact absurd H (by simp)
                ·
                 rw [if_neg c28] at H; exact absurd H (by simp)
               ·
                rw [if_neg c26] at H; have c26b0 : decide (0 < x53_3) = false := decide_eq_false c26; clear c26; replace H := Option.bind_eq_some_iff.mp H; obtain ⟨t238, A570, H⟩ := H; (try dsimp only at H); have A57 := Aside0.mk A570; clear A570
                by_cases c58 : t238 = true
                ·
                 subst c58; have H1 := ifp_ H
                 clear H; have H := H1; clear H1; obtain rfl := Option.some.inj H; have p232 : 0 ≤ (x53_3 : Int) := sq_dec; have q232 : x53_3 < ((rd_L7 l2_0 x47_2).length : Int) := sq_dec; obtain ⟨ad232, e232, hx232_0, hx232_1⟩ := at_T55 HR231_0.out x53_3 p232 q232; cases e232; replace hx232_0 := (HB.out.cell (World.block_lt_of_cell? w _ hx232_0)).trans hx232_0; replace hx232_1 := (HB.out.cell (World.block_lt_of_cell? w _ hx232_1)).trans hx232_1; replace p232 := eq_true p232; replace q232 := eq_true q232
                 try go_wp2_with (first | ((with_reducible refine gate_dst (N := 12) rfl ?_); (try (refine gate_guard (by rfl) ?_; dsimp only)); refine box_y 12 #[.int .i64 0, .int .i64 0] 55 (h := ?_); intro gb233 hg w59 hbox hb; have n0_ := Aside0.mk (Kd.R_below (Kd.R_elderB (sq_row HO_8.out) gb233 (Nat.le_of_eq hg.symm)) hb); have n1_ := Aside0.mk (below_step (sq_below HB.out) hb); have n2_ := Aside0.mk (hbox); have n3_ := ge_ hg (below_size (sq_below HB.out)); have n4_ := ge_ hg (below_size (sq_below HB.out)); clear HO_8; clear HB; have HO_8 := n0_; have HB := n1_; have BK233 := n2_; have GW233 := n3_; have GE233 := n4_; clear n0_ n1_ n2_ n3_ n4_; clear hb hbox hg; have hcz60_0 := cl_ (v := .int .i64 0) BK233 0; have hcz60_1 := cl_ (v := .int .i64 0) BK233 1; have hfz60_0 := blk_frozen BK233.out 0; have hfz60_1 := blk_frozen BK233.out 1))
                 have n0_ : Aside0 (Kd.R k55 55 ((w59.setCell ⟨gb233, 0, none⟩ (.int .i64 ((rd_T55 (rd_L7 l2_0 x47_2) x53_3).f0))).setCell ⟨gb233, 1, none⟩ (.int .i64 ((rd_T55 (rd_L7 l2_0 x47_2) x53_3).f1))) w.heap.size (fun k_ => k_ ≠ gb233) u8 x8_2) := ⟨by (with_reducible repeat (first | apply Kd.R_alloc | apply Kd.R_drewN | apply Kd.R_drew)); exact Kd.R_mono (Kd.R_far (p := ⟨gb233, 1, none⟩) (Kd.R_far (p := ⟨gb233, 0, none⟩) (Kd.R_mono HO_8.out (fun k_ hk => (⟨hk, hk.2⟩ : _ ∧ k_ ≠ gb233))) (fun _ hk => hk.2) (.int .i64 ((rd_T55 (rd_L7 l2_0 x47_2) x53_3).f0))) (fun _ hk => hk.2) (.int .i64 ((rd_T55 (rd_L7 l2_0 x47_2) x53_3).f1))) (fun _ hk => hk.1.2)⟩; have n1_ : Aside0 (((w59.setCell ⟨gb233, 0, none⟩ (.int .i64 ((rd_T55 (rd_L7 l2_0 x47_2) x53_3).f0))).setCell ⟨gb233, 1, none⟩ (.int .i64 ((rd_T55 (rd_L7 l2_0 x47_2) x53_3).f1))).heap[gb233]? = some (.cells #[.int .i64 ((rd_T55 (rd_L7 l2_0 x47_2) x53_3).f0), .int .i64 ((rd_T55 (rd_L7 l2_0 x47_2) x53_3).f1)] 55 (0, 0))) := ⟨by (with_reducible repeat (first | refine blk_drewN ?_ _ | refine blk_drew ?_ | refine blk_alloc ?_ _)); refine blk_put (cs := #[.int .i64 ((rd_T55 (rd_L7 l2_0 x47_2) x53_3).f0), .int .i64 0]) ?_ 1 _ rfl; (with_reducible repeat (first | refine blk_drewN ?_ _ | refine blk_drew ?_ | refine blk_alloc ?_ _)); refine blk_put (cs := #[.int .i64 0, .int .i64 0]) ?_ 0 _ rfl; (with_reducible repeat (first | refine blk_drewN ?_ _ | refine blk_drew ?_ | refine blk_alloc ?_ _)); exact BK233.out⟩; have n2_ : Aside0 (Below w.heap.size w ((w59.setCell ⟨gb233, 0, none⟩ (.int .i64 ((rd_T55 (rd_L7 l2_0 x47_2) x53_3).f0))).setCell ⟨gb233, 1, none⟩ (.int .i64 ((rd_T55 (rd_L7 l2_0 x47_2) x53_3).f1)))) := ⟨sq_below1 HB.out GE233.out⟩
                 (try clear HO_8)
                 (try clear BK233)
                 (try clear HB)
                 generalize ((w59.setCell ⟨gb233, 0, none⟩ (.int .i64 ((rd_T55 (rd_L7 l2_0 x47_2) x53_3).f0))).setCell ⟨gb233, 1, none⟩ (.int .i64 ((rd_T55 (rd_L7 l2_0 x47_2) x53_3).f1))) = w61 at n0_ n1_ n2_ ⊢; have HO_8 := n0_; have BK233 := n1_; have HB := n2_; clear n0_ n1_ n2_; replace HO_8 := Aside0.mk (Kd.R_drew HO_8.out); replace BK233 := bd_ BK233; replace HB := hd_ HB; refine start_ (n := 23) (S := fun w' => w'.cell? ⟨gb233, 0, none⟩ = some (.int .i64 ((rd_T55 (rd_L7 l2_0 x47_2) x53_3).f0)) ∧ w'.cell? ⟨gb233, 1, none⟩ = some (.int .i64 ((rd_T55 (rd_L7 l2_0 x47_2) x53_3).f1))) (ds := []) impl_SegOk.b0_ (by kernel_rfl) rfl rfl ⟨cl_ BK233 0, cl_ BK233 1⟩ (fun hHeld => ?_); refine with_tabW impl_SegOk.tab11 impl_SegOk.bits11 (fun HT_ HW_ => ?_); generalize w61.drew = w62 at HO_8 BK233 HB hHeld ⊢; refine pure_y 0 (some 58) impl_SegOk.b1_ (any_of HT_.out (by kernel_rfl)) (h := ?_)
                 refine take_y 1 (some 59) impl_SegOk.b2_ rfl (take_ofW HT_.out HW_.out (by kernel_rfl)) hHeld (Or.inl ⟨by rfl, (by rintro w' ⟨s0, s1⟩; go_simp; with_reducible rfl)⟩) (h := ?_)
                 refine one_ (i := 2) (N := some 60) impl_SegOk.b3_ rfl rfl (one_of HT_.out (by kernel_rfl)) (by decide) (fun K hK => ?_); refine gs_ Tryd.func33 #[.int .i64 a0, .agg #[.int .i64 ((rd_T55 (rd_L7 l2_0 x47_2) x53_3).f0), .int .i64 ((rd_T55 (rd_L7 l2_0 x47_2) x53_3).f1)]] (h := ?_); with_reducible refine (impl_SymOk.calls a0 ((rd_T55 (rd_L7 l2_0 x47_2) x53_3).f0) ((rd_T55 (rd_L7 l2_0 x47_2) x53_3).f1) true _ A24.out).mono ?_
                 rintro e w63 ⟨rfl, hb⟩; refine ⟨_, rfl, ?_⟩; replace HO_8 := Aside0.mk (Kd.R_below (sq_row HO_8.out) hb); replace BK233 := bb_ BK233 hb; replace HB := hb1_ HB hb GE233
                 (try clear hb)
                 (try clear hb2)
                 (try clear hk)
                 (try clear hi)
                 obtain ⟨Ao64, co64, eo64⟩ := Kd.R_slice HO_8.out
                 (first | subst eo64 | (injection eo64 with f1_ f2_ f3_; have f4_ := f1_.symm; have f5_ := f3_.symm; clear f1_ f2_ f3_; subst f4_; subst f5_))
                 refine hK.out _ _ ⟨cl_ BK233 0, cl_ BK233 1⟩ (fun hHeld => ?_); clear hK K; refine norm_y 60 (h := ?_)
                 refine pure_y 3 (some 61) impl_SegOk.b4_ (any_of HT_.out (by kernel_rfl)) (h := ?_)
                 refine pure_y 4 (some 62) impl_SegOk.b5_ (any_of HT_.out (by kernel_rfl)) (h := ?_)
                 refine pure_y 5 (some 63) impl_SegOk.b6_ (any_of HT_.out (by kernel_rfl)) (h := ?_)
                 refine pure_y 6 (some 64) impl_SegOk.b7_ (any_of HT_.out (by kernel_rfl)) (h := ?_)
                 refine pure_y 7 (some 65) impl_SegOk.b8_ (any_of HT_.out (by kernel_rfl)) (h := ?_)
                 refine pure_n 8 (some 66) impl_SegOk.b9_ (any_of HT_.out (by kernel_rfl)) (h := ?_)
                 refine pure_n 9 (some 67) impl_SegOk.b11_ (any_of HT_.out (by kernel_rfl)) (h := ?_)
                 refine pure_n 10 (some 68) impl_SegOk.b13_ (any_of HT_.out (by kernel_rfl)) (h := ?_)
                 refine pure_n 11 (some 69) impl_SegOk.b14_ (any_of HT_.out (by kernel_rfl)) (h := ?_)
                 refine pure_n 12 (some 70) impl_SegOk.b15_ (any_of HT_.out (by kernel_rfl)) (h := ?_)
                 refine pure_n 13 (some 71) impl_SegOk.b16_ (any_of HT_.out (by kernel_rfl)) (h := ?_)
                 refine pure_n 14 (some 72) impl_SegOk.b17_ (any_of HT_.out (by kernel_rfl)) (h := ?_)
                 refine pure_n 15 (some 73) impl_SegOk.b18_ (any_of HT_.out (by kernel_rfl)) (h := ?_)
                 refine pure_y 16 (some 74) impl_SegOk.b19_ (any_of HT_.out (by kernel_rfl)) (h := ?_)
                 refine pure_y 17 (some 75) impl_SegOk.b20_ (any_of HT_.out (by kernel_rfl)) (h := ?_)
                 refine pure_y 18 (some 76) impl_SegOk.b21_ (any_of HT_.out (by kernel_rfl)) (h := ?_)
                 refine pure_y 19 (some 77) impl_SegOk.b22_ (any_of HT_.out (by kernel_rfl)) (h := ?_)
                 refine take_y 20 (some 78) impl_SegOk.b23_ rfl (take_ofW HT_.out HW_.out (by kernel_rfl)) hHeld (Or.inl ⟨by rfl, (by rintro w' ⟨s0, s1⟩; go_simp; with_reducible rfl)⟩) (h := ?_)
                 refine one_ (i := 21) (N := some 79) impl_SegOk.b24_ rfl rfl (one_of HT_.out (by kernel_rfl)) (by decide) (fun K hK => ?_); refine gs_ Tryd.func35 #[.slice Ao64 x8_2.length co64, .agg #[.int .i64 ((rd_T55 (rd_L7 l2_0 x47_2) x53_3).f0), .int .i64 ((rd_T55 (rd_L7 l2_0 x47_2) x53_3).f1)]] (h := ?_); with_reducible refine (impl_Sym_35.calls k3 _ _ x8_2 ((rd_T55 (rd_L7 l2_0 x47_2) x53_3).f0) ((rd_T55 (rd_L7 l2_0 x47_2) x53_3).f1) true _ ?side1 ?side2 A57.out).mono ?_
                 (case side1 => exact sq_c ((Kd.R_reads' HO_8.out).2.2))
                 (case side2 => exact (Kd.R_reads' HO_8.out).2.1)
                 rintro e w65 ⟨rfl, hb⟩; refine ⟨_, rfl, ?_⟩; replace HO_8 := Aside0.mk (Kd.R_below (sq_row HO_8.out) hb); replace BK233 := bb_ BK233 hb; replace HB := hb1_ HB hb GE233
                 (try clear hb)
                 (try clear hb2)
                 (try clear hk)
                 (try clear hi)
                 refine hK.out _ _ ⟨cl_ BK233 0, cl_ BK233 1⟩ (fun hHeld => ?_); clear hK K; refine norm_y 79 (h := ?_)
                 refine pure_y 22 (some 80) impl_SegOk.b25_ (any_of HT_.out (by kernel_rfl)) (h := ?_)
                 refine done_ (done_of HT_.out (by kernel_rfl)) ?_
                 try go_wp2
                 go_ret
                 exact ⟨by first | rfl | (simp [errW_none, errW_some] <;> rfl) | (simp [*, errW_none, errW_some] <;> rfl), sq_below1 HB.out GE233.out⟩
                ·
                 replace c58 := Bool.eq_false_iff.mpr c58; subst c58; have H1 := ifn_ H
                 clear H; have H := H1; clear H1; have H' := Aside0.mk H; clear H; have p232 : 0 ≤ (x53_3 : Int) := sq_dec; have q232 : x53_3 < ((rd_L7 l2_0 x47_2).length : Int) := sq_dec; obtain ⟨ad232, e232, hx232_0, hx232_1⟩ := at_T55 HR231_0.out x53_3 p232 q232; cases e232; replace hx232_0 := (HB.out.cell (World.block_lt_of_cell? w _ hx232_0)).trans hx232_0; replace hx232_1 := (HB.out.cell (World.block_lt_of_cell? w _ hx232_1)).trans hx232_1; replace p232 := eq_true p232; replace q232 := eq_true q232
                 try go_wp2_with (first | ((with_reducible refine gate_dst (N := 12) rfl ?_); (try (refine gate_guard (by rfl) ?_; dsimp only)); refine box_y 12 #[.int .i64 0, .int .i64 0] 55 (h := ?_); intro gb233 hg w66 hbox hb; have n0_ := Aside0.mk (Kd.R_below (Kd.R_elderB (sq_row HO_8.out) gb233 (Nat.le_of_eq hg.symm)) hb); have n1_ := Aside0.mk (blk_below (sq_blk BK225.out) hb); have n2_ := Aside0.mk (below_step (sq_below1 HB.out GE225.out) hb); have n3_ := Aside0.mk (hbox); have n4_ := ge_ hg (below_size (sq_below1 HB.out GE225.out)); have n5_ := ge_ hg (below_size (sq_below1 HB.out GE225.out)); have n6_ := nb_ hg BK225; have n7_ := Aside0.mk (Ne.symm n6_.out); clear HO_8; clear BK225; clear HB; have HO_8 := n0_; have BK225 := n1_; have HB := n2_; have BK233 := n3_; have GW233 := n4_; have GE233 := n5_; have NB225_233 := n6_; have NB233_225 := n7_; clear n0_ n1_ n2_ n3_ n4_ n5_ n6_ n7_; clear hb hbox hg; have hnb67 := NB233_225.out; have hnc67 := NB225_233.out; have hcz68_0 := cl_ (v := .int .i64 0) BK233 0; have hcz68_1 := cl_ (v := .int .i64 0) BK233 1; have hfz68_0 := blk_frozen BK233.out 0; have hfz68_1 := blk_frozen BK233.out 1))
                 have n0_ : Aside0 (Kd.R k55 55 ((w66.setCell ⟨gb233, 0, none⟩ (.int .i64 ((rd_T55 (rd_L7 l2_0 x47_2) x53_3).f0))).setCell ⟨gb233, 1, none⟩ (.int .i64 ((rd_T55 (rd_L7 l2_0 x47_2) x53_3).f1))) w.heap.size (fun k_ => k_ ≠ gb233) u8 x8_2) := ⟨by (with_reducible repeat (first | apply Kd.R_alloc | apply Kd.R_drewN | apply Kd.R_drew)); exact Kd.R_mono (Kd.R_far (p := ⟨gb233, 1, none⟩) (Kd.R_far (p := ⟨gb233, 0, none⟩) (Kd.R_mono HO_8.out (fun k_ hk => (⟨hk, hk.2⟩ : _ ∧ k_ ≠ gb233))) (fun _ hk => hk.2) (.int .i64 ((rd_T55 (rd_L7 l2_0 x47_2) x53_3).f0))) (fun _ hk => hk.2) (.int .i64 ((rd_T55 (rd_L7 l2_0 x47_2) x53_3).f1))) (fun _ hk => hk.1.2)⟩; have n1_ : Aside0 (((w66.setCell ⟨gb233, 0, none⟩ (.int .i64 ((rd_T55 (rd_L7 l2_0 x47_2) x53_3).f0))).setCell ⟨gb233, 1, none⟩ (.int .i64 ((rd_T55 (rd_L7 l2_0 x47_2) x53_3).f1))).heap[gb225]? = some (.cells #[.slice (some ad231) l2_0.length c2_0, .slice A2_1 l2_1.length c2_1, .slice A2_2 l2_2.length c2_2] 32 (0, 0))) := bf_ BK225 NB225_233; have n2_ : Aside0 (((w66.setCell ⟨gb233, 0, none⟩ (.int .i64 ((rd_T55 (rd_L7 l2_0 x47_2) x53_3).f0))).setCell ⟨gb233, 1, none⟩ (.int .i64 ((rd_T55 (rd_L7 l2_0 x47_2) x53_3).f1))).heap[gb233]? = some (.cells #[.int .i64 ((rd_T55 (rd_L7 l2_0 x47_2) x53_3).f0), .int .i64 ((rd_T55 (rd_L7 l2_0 x47_2) x53_3).f1)] 55 (0, 0))) := ⟨by (with_reducible repeat (first | refine blk_drewN ?_ _ | refine blk_drew ?_ | refine blk_alloc ?_ _)); refine blk_put (cs := #[.int .i64 ((rd_T55 (rd_L7 l2_0 x47_2) x53_3).f0), .int .i64 0]) ?_ 1 _ rfl; (with_reducible repeat (first | refine blk_drewN ?_ _ | refine blk_drew ?_ | refine blk_alloc ?_ _)); refine blk_put (cs := #[.int .i64 0, .int .i64 0]) ?_ 0 _ rfl; (with_reducible repeat (first | refine blk_drewN ?_ _ | refine blk_drew ?_ | refine blk_alloc ?_ _)); exact BK233.out⟩; have n3_ : Aside0 (Below w.heap.size w ((w66.setCell ⟨gb233, 0, none⟩ (.int .i64 ((rd_T55 (rd_L7 l2_0 x47_2) x53_3).f0))).setCell ⟨gb233, 1, none⟩ (.int .i64 ((rd_T55 (rd_L7 l2_0 x47_2) x53_3).f1)))) := ⟨sq_below2 HB.out GE225.out GE233.out⟩
                 (try clear HO_8)
                 (try clear BK225)
                 (try clear BK233)
                 (try clear HB)
                 generalize ((w66.setCell ⟨gb233, 0, none⟩ (.int .i64 ((rd_T55 (rd_L7 l2_0 x47_2) x53_3).f0))).setCell ⟨gb233, 1, none⟩ (.int .i64 ((rd_T55 (rd_L7 l2_0 x47_2) x53_3).f1))) = w69 at n0_ n1_ n2_ n3_ ⊢; have HO_8 := n0_; have BK225 := n1_; have BK233 := n2_; have HB := n3_; clear n0_ n1_ n2_ n3_; replace HO_8 := Aside0.mk (Kd.R_drew HO_8.out); replace BK225 := bd_ BK225; replace BK233 := bd_ BK233; replace HB := hd_ HB; refine start_ (n := 23) (S := fun w' => w'.cell? ⟨gb233, 0, none⟩ = some (.int .i64 ((rd_T55 (rd_L7 l2_0 x47_2) x53_3).f0)) ∧ w'.cell? ⟨gb233, 1, none⟩ = some (.int .i64 ((rd_T55 (rd_L7 l2_0 x47_2) x53_3).f1))) (ds := []) impl_SegOk.b0_ (by kernel_rfl) rfl rfl ⟨cl_ BK233 0, cl_ BK233 1⟩ (fun hHeld => ?_); refine with_tabW impl_SegOk.tab11 impl_SegOk.bits11 (fun HT_ HW_ => ?_); generalize w69.drew = w70 at HO_8 BK225 BK233 HB hHeld ⊢; refine pure_y 0 (some 58) impl_SegOk.b1_ (any_of HT_.out (by kernel_rfl)) (h := ?_)
                 refine take_y 1 (some 59) impl_SegOk.b2_ rfl (take_ofW HT_.out HW_.out (by kernel_rfl)) hHeld (Or.inl ⟨by rfl, (by rintro w' ⟨s0, s1⟩; go_simp; with_reducible rfl)⟩) (h := ?_)
                 refine one_ (i := 2) (N := some 60) impl_SegOk.b3_ rfl rfl (one_of HT_.out (by kernel_rfl)) (by decide) (fun K hK => ?_); refine gs_ Tryd.func33 #[.int .i64 a0, .agg #[.int .i64 ((rd_T55 (rd_L7 l2_0 x47_2) x53_3).f0), .int .i64 ((rd_T55 (rd_L7 l2_0 x47_2) x53_3).f1)]] (h := ?_); with_reducible refine (impl_SymOk.calls a0 ((rd_T55 (rd_L7 l2_0 x47_2) x53_3).f0) ((rd_T55 (rd_L7 l2_0 x47_2) x53_3).f1) true _ A24.out).mono ?_
                 rintro e w71 ⟨rfl, hb⟩; refine ⟨_, rfl, ?_⟩; replace HO_8 := Aside0.mk (Kd.R_below (sq_row HO_8.out) hb); replace BK225 := bb_ BK225 hb; replace BK233 := bb_ BK233 hb; replace HB := hb2_ HB hb GE225 GE233
                 (try clear hb)
                 (try clear hb2)
                 (try clear hk)
                 (try clear hi)
                 obtain ⟨Ao72, co72, eo72⟩ := Kd.R_slice HO_8.out
                 (first | subst eo72 | (injection eo72 with f1_ f2_ f3_; have f4_ := f1_.symm; have f5_ := f3_.symm; clear f1_ f2_ f3_; subst f4_; subst f5_))
                 refine hK.out _ _ ⟨cl_ BK233 0, cl_ BK233 1⟩ (fun hHeld => ?_); clear hK K; refine norm_y 60 (h := ?_)
                 refine pure_y 3 (some 61) impl_SegOk.b4_ (any_of HT_.out (by kernel_rfl)) (h := ?_)
                 refine pure_y 4 (some 62) impl_SegOk.b5_ (any_of HT_.out (by kernel_rfl)) (h := ?_)
                 refine pure_y 5 (some 63) impl_SegOk.b6_ (any_of HT_.out (by kernel_rfl)) (h := ?_)
                 refine pure_y 6 (some 64) impl_SegOk.b7_ (any_of HT_.out (by kernel_rfl)) (h := ?_)
                 refine pure_y 7 (some 65) impl_SegOk.b8_ (any_of HT_.out (by kernel_rfl)) (h := ?_)
                 refine pure_n 8 (some 66) impl_SegOk.b9_ (any_of HT_.out (by kernel_rfl)) (h := ?_)
                 refine pure_n 9 (some 67) impl_SegOk.b11_ (any_of HT_.out (by kernel_rfl)) (h := ?_)
                 refine pure_n 10 (some 68) impl_SegOk.b13_ (any_of HT_.out (by kernel_rfl)) (h := ?_)
                 refine pure_n 11 (some 69) impl_SegOk.b14_ (any_of HT_.out (by kernel_rfl)) (h := ?_)
                 refine pure_n 12 (some 70) impl_SegOk.b15_ (any_of HT_.out (by kernel_rfl)) (h := ?_)
                 refine pure_n 13 (some 71) impl_SegOk.b16_ (any_of HT_.out (by kernel_rfl)) (h := ?_)
                 refine pure_n 14 (some 72) impl_SegOk.b17_ (any_of HT_.out (by kernel_rfl)) (h := ?_)
                 refine pure_n 15 (some 73) impl_SegOk.b18_ (any_of HT_.out (by kernel_rfl)) (h := ?_)
                 refine pure_y 16 (some 74) impl_SegOk.b19_ (any_of HT_.out (by kernel_rfl)) (h := ?_)
                 refine pure_y 17 (some 75) impl_SegOk.b20_ (any_of HT_.out (by kernel_rfl)) (h := ?_)
                 refine pure_y 18 (some 76) impl_SegOk.b21_ (any_of HT_.out (by kernel_rfl)) (h := ?_)
                 refine pure_y 19 (some 77) impl_SegOk.b22_ (any_of HT_.out (by kernel_rfl)) (h := ?_)
                 refine take_y 20 (some 78) impl_SegOk.b23_ rfl (take_ofW HT_.out HW_.out (by kernel_rfl)) hHeld (Or.inl ⟨by rfl, (by rintro w' ⟨s0, s1⟩; go_simp; with_reducible rfl)⟩) (h := ?_)
                 refine one_ (i := 21) (N := some 79) impl_SegOk.b24_ rfl rfl (one_of HT_.out (by kernel_rfl)) (by decide) (fun K hK => ?_); refine gs_ Tryd.func35 #[.slice Ao72 x8_2.length co72, .agg #[.int .i64 ((rd_T55 (rd_L7 l2_0 x47_2) x53_3).f0), .int .i64 ((rd_T55 (rd_L7 l2_0 x47_2) x53_3).f1)]] (h := ?_); with_reducible refine (impl_Sym_35.calls k3 _ _ x8_2 ((rd_T55 (rd_L7 l2_0 x47_2) x53_3).f0) ((rd_T55 (rd_L7 l2_0 x47_2) x53_3).f1) false _ ?side1 ?side2 A57.out).mono ?_
                 (case side1 => exact sq_c ((Kd.R_reads' HO_8.out).2.2))
                 (case side2 => exact (Kd.R_reads' HO_8.out).2.1)
                 rintro e w73 ⟨rfl, hb⟩; refine ⟨_, rfl, ?_⟩; replace HO_8 := Aside0.mk (Kd.R_below (sq_row HO_8.out) hb); replace BK225 := bb_ BK225 hb; replace BK233 := bb_ BK233 hb; replace HB := hb2_ HB hb GE225 GE233
                 (try clear hb)
                 (try clear hb2)
                 (try clear hk)
                 (try clear hi)
                 refine hK.out _ _ ⟨cl_ BK233 0, cl_ BK233 1⟩ (fun hHeld => ?_); clear hK K; refine norm_y 79 (h := ?_)
                 refine pure_y 22 (some 80) impl_SegOk.b25_ (any_of HT_.out (by kernel_rfl)) (h := ?_)
                 refine done_ (done_of HT_.out (by kernel_rfl)) ?_
                 try go_wp2
                 go_roundg k3
                 case measure => have := HJ3.out; have := HK2.out; have := HK3.out; omega
                 case rel => exact ⟨(wrap64 (x53_3 + 1)), (by first | rfl | (simp; done) | (simp [*]; done)), H', ⟨by have := HJ3.out; have := HK2.out; have := HK3.out; omega⟩, ⟨by (with_reducible repeat (first | apply Kd.R_alloc | apply Kd.R_drewN | apply Kd.R_drew)); exact Kd.R_mono HO_8.out (fun _ hk => trivial)⟩, bk_ BK225, ⟨sq_below2 HB.out GE225.out GE233.out⟩⟩
              ·
               replace c25 := Bool.eq_false_iff.mpr c25; subst c25; have H1 := ifn_ H
               clear H; have H := H1; clear H1; obtain rfl := Option.some.inj H; have p232 : 0 ≤ (x53_3 : Int) := sq_dec; have q232 : x53_3 < ((rd_L7 l2_0 x47_2).length : Int) := sq_dec; obtain ⟨ad232, e232, hx232_0, hx232_1⟩ := at_T55 HR231_0.out x53_3 p232 q232; cases e232; replace hx232_0 := (HB.out.cell (World.block_lt_of_cell? w _ hx232_0)).trans hx232_0; replace hx232_1 := (HB.out.cell (World.block_lt_of_cell? w _ hx232_1)).trans hx232_1; replace p232 := eq_true p232; replace q232 := eq_true q232
               try go_wp2_with (first | ((with_reducible refine gate_dst (N := 12) rfl ?_); (try (refine gate_guard (by rfl) ?_; dsimp only)); refine box_y 12 #[.int .i64 0, .int .i64 0] 55 (h := ?_); intro gb233 hg w74 hbox hb; have n0_ := Aside0.mk (Kd.R_below (Kd.R_elderB (sq_row HO_8.out) gb233 (Nat.le_of_eq hg.symm)) hb); have n1_ := Aside0.mk (below_step (sq_below HB.out) hb); have n2_ := Aside0.mk (hbox); have n3_ := ge_ hg (below_size (sq_below HB.out)); have n4_ := ge_ hg (below_size (sq_below HB.out)); clear HO_8; clear HB; have HO_8 := n0_; have HB := n1_; have BK233 := n2_; have GW233 := n3_; have GE233 := n4_; clear n0_ n1_ n2_ n3_ n4_; clear hb hbox hg; have hcz75_0 := cl_ (v := .int .i64 0) BK233 0; have hcz75_1 := cl_ (v := .int .i64 0) BK233 1; have hfz75_0 := blk_frozen BK233.out 0; have hfz75_1 := blk_frozen BK233.out 1))
               have n0_ : Aside0 (Kd.R k55 55 ((w74.setCell ⟨gb233, 0, none⟩ (.int .i64 ((rd_T55 (rd_L7 l2_0 x47_2) x53_3).f0))).setCell ⟨gb233, 1, none⟩ (.int .i64 ((rd_T55 (rd_L7 l2_0 x47_2) x53_3).f1))) w.heap.size (fun k_ => k_ ≠ gb233) u8 x8_2) := ⟨by (with_reducible repeat (first | apply Kd.R_alloc | apply Kd.R_drewN | apply Kd.R_drew)); exact Kd.R_mono (Kd.R_far (p := ⟨gb233, 1, none⟩) (Kd.R_far (p := ⟨gb233, 0, none⟩) (Kd.R_mono HO_8.out (fun k_ hk => (⟨hk, hk.2⟩ : _ ∧ k_ ≠ gb233))) (fun _ hk => hk.2) (.int .i64 ((rd_T55 (rd_L7 l2_0 x47_2) x53_3).f0))) (fun _ hk => hk.2) (.int .i64 ((rd_T55 (rd_L7 l2_0 x47_2) x53_3).f1))) (fun _ hk => hk.1.2)⟩; have n1_ : Aside0 (((w74.setCell ⟨gb233, 0, none⟩ (.int .i64 ((rd_T55 (rd_L7 l2_0 x47_2) x53_3).f0))).setCell ⟨gb233, 1, none⟩ (.int .i64 ((rd_T55 (rd_L7 l2_0 x47_2) x53_3).f1))).heap[gb233]? = some (.cells #[.int .i64 ((rd_T55 (rd_L7 l2_0 x47_2) x53_3).f0), .int .i64 ((rd_T55 (rd_L7 l2_0 x47_2) x53_3).f1)] 55 (0, 0))) := ⟨by (with_reducible repeat (first | refine blk_drewN ?_ _ | refine blk_drew ?_ | refine blk_alloc ?_ _)); refine blk_put (cs := #[.int .i64 ((rd_T55 (rd_L7 l2_0 x47_2) x53_3).f0), .int .i64 0]) ?_ 1 _ rfl; (with_reducible repeat (first | refine blk_drewN ?_ _ | refine blk_drew ?_ | refine blk_alloc ?_ _)); refine blk_put (cs := #[.int .i64 0, .int .i64 0]) ?_ 0 _ rfl; (with_reducible repeat (first | refine blk_drewN ?_ _ | refine blk_drew ?_ | refine blk_alloc ?_ _)); exact BK233.out⟩; have n2_ : Aside0 (Below w.heap.size w ((w74.setCell ⟨gb233, 0, none⟩ (.int .i64 ((rd_T55 (rd_L7 l2_0 x47_2) x53_3).f0))).setCell ⟨gb233, 1, none⟩ (.int .i64 ((rd_T55 (rd_L7 l2_0 x47_2) x53_3).f1)))) := ⟨sq_below1 HB.out GE233.out⟩
               (try clear HO_8)
               (try clear BK233)
               (try clear HB)
               generalize ((w74.setCell ⟨gb233, 0, none⟩ (.int .i64 ((rd_T55 (rd_L7 l2_0 x47_2) x53_3).f0))).setCell ⟨gb233, 1, none⟩ (.int .i64 ((rd_T55 (rd_L7 l2_0 x47_2) x53_3).f1))) = w76 at n0_ n1_ n2_ ⊢; have HO_8 := n0_; have BK233 := n1_; have HB := n2_; clear n0_ n1_ n2_; replace HO_8 := Aside0.mk (Kd.R_drew HO_8.out); replace BK233 := bd_ BK233; replace HB := hd_ HB; refine start_ (n := 23) (S := fun w' => w'.cell? ⟨gb233, 0, none⟩ = some (.int .i64 ((rd_T55 (rd_L7 l2_0 x47_2) x53_3).f0)) ∧ w'.cell? ⟨gb233, 1, none⟩ = some (.int .i64 ((rd_T55 (rd_L7 l2_0 x47_2) x53_3).f1))) (ds := []) impl_SegOk.b0_ (by kernel_rfl) rfl rfl ⟨cl_ BK233 0, cl_ BK233 1⟩ (fun hHeld => ?_); refine with_tabW impl_SegOk.tab11 impl_SegOk.bits11 (fun HT_ HW_ => ?_); generalize w76.drew = w77 at HO_8 BK233 HB hHeld ⊢; refine pure_y 0 (some 58) impl_SegOk.b1_ (any_of HT_.out (by kernel_rfl)) (h := ?_)
               refine take_y 1 (some 59) impl_SegOk.b2_ rfl (take_ofW HT_.out HW_.out (by kernel_rfl)) hHeld (Or.inl ⟨by rfl, (by rintro w' ⟨s0, s1⟩; go_simp; with_reducible rfl)⟩) (h := ?_)
               refine one_ (i := 2) (N := some 60) impl_SegOk.b3_ rfl rfl (one_of HT_.out (by kernel_rfl)) (by decide) (fun K hK => ?_); refine gs_ Tryd.func33 #[.int .i64 a0, .agg #[.int .i64 ((rd_T55 (rd_L7 l2_0 x47_2) x53_3).f0), .int .i64 ((rd_T55 (rd_L7 l2_0 x47_2) x53_3).f1)]] (h := ?_); with_reducible refine (impl_SymOk.calls a0 ((rd_T55 (rd_L7 l2_0 x47_2) x53_3).f0) ((rd_T55 (rd_L7 l2_0 x47_2) x53_3).f1) false _ A24.out).mono ?_
               rintro e w78 ⟨rfl, hb⟩; refine ⟨_, rfl, ?_⟩; replace HO_8 := Aside0.mk (Kd.R_below (sq_row HO_8.out) hb); replace BK233 := bb_ BK233 hb; replace HB := hb1_ HB hb GE233
               (try clear hb)
               (try clear hb2)
               (try clear hk)
               (try clear hi)
               refine hK.out _ _ ⟨cl_ BK233 0, cl_ BK233 1⟩ (fun hHeld => ?_); clear hK K; refine norm_y 60 (h := ?_)
               refine pure_y 3 (some 61) impl_SegOk.b4_ (any_of HT_.out (by kernel_rfl)) (h := ?_)
               refine pure_y 4 (some 62) impl_SegOk.b5_ (any_of HT_.out (by kernel_rfl)) (h := ?_)
               refine pure_n 5 (some 63) impl_SegOk.b6_ (any_of HT_.out (by kernel_rfl)) (h := ?_)
               refine pure_n 6 (some 64) impl_SegOk.b7_ (any_of HT_.out (by kernel_rfl)) (h := ?_)
               refine pure_n 7 (some 65) impl_SegOk.b8_ (any_of HT_.out (by kernel_rfl)) (h := ?_)
               refine pure_n 8 (some 66) impl_SegOk.b9_ (any_of HT_.out (by kernel_rfl)) (h := ?_)
               refine pure_n 9 (some 67) impl_SegOk.b11_ (any_of HT_.out (by kernel_rfl)) (h := ?_)
               refine pure_n 10 (some 68) impl_SegOk.b13_ (any_of HT_.out (by kernel_rfl)) (h := ?_)
               refine pure_n 11 (some 69) impl_SegOk.b14_ (any_of HT_.out (by kernel_rfl)) (h := ?_)
               refine pure_n 12 (some 70) impl_SegOk.b15_ (any_of HT_.out (by kernel_rfl)) (h := ?_)
               refine pure_n 13 (some 71) impl_SegOk.b16_ (any_of HT_.out (by kernel_rfl)) (h := ?_)
               refine pure_n 14 (some 72) impl_SegOk.b17_ (any_of HT_.out (by kernel_rfl)) (h := ?_)
               refine pure_n 15 (some 73) impl_SegOk.b18_ (any_of HT_.out (by kernel_rfl)) (h := ?_)
               refine pure_n 16 (some 74) impl_SegOk.b19_ (any_of HT_.out (by kernel_rfl)) (h := ?_)
               refine pure_y 17 (some 75) impl_SegOk.b20_ (any_of HT_.out (by kernel_rfl)) (h := ?_)
               refine pure_y 18 (some 76) impl_SegOk.b21_ (any_of HT_.out (by kernel_rfl)) (h := ?_)
               refine pure_n 19 (some 77) impl_SegOk.b22_ (any_of HT_.out (by kernel_rfl)) (h := ?_)
               refine pure_n 20 (some 78) impl_SegOk.b23_ (any_of HT_.out (by kernel_rfl)) (h := ?_)
               refine pure_n 21 (some 79) impl_SegOk.b24_ (any_of HT_.out (by kernel_rfl)) (h := ?_)
               refine pure_y 22 (some 80) impl_SegOk.b25_ (any_of HT_.out (by kernel_rfl)) (h := ?_)
               refine done_ (done_of HT_.out (by kernel_rfl)) ?_
               try go_wp2
               go_ret
               exact ⟨by first | rfl | (simp [errW_none, errW_some] <;> rfl) | (simp [*, errW_none, errW_some] <;> rfl), sq_below1 HB.out GE233.out⟩
             ·
              rw [if_neg c23] at H; exact absurd H (by simp)
            ·
             rw [if_neg c22] at H; exact absurd H (by simp)
           ·
            rw [if_neg c21] at H; have c21b0 : decide (x53_3 < ((rd_L7 l2_0 x47_2).length : Int)) = false := decide_eq_false c21; clear c21
            by_cases c79 : ((rd_L7 l2_0 x47_2).length : Int) = 0
            ·
             rw [if_pos c79] at H; have c79b0 : (((rd_L7 l2_0 x47_2).length : Int) == 0) = true := beq_iff_eq.mpr c79; have c79b1 : (((rd_L7 l2_0 x47_2).length : Int) != 0) = false := bne_eq_false_iff_eq.mpr c79; clear c79; obtain rfl := Option.some.inj H
             go_wp2
             go_ret
             exact ⟨by first | rfl | (simp [errW_none, errW_some] <;> rfl) | (simp [*, errW_none, errW_some] <;> rfl), sq_below1 HB.out GE225.out⟩
            ·
             rw [if_neg c79] at H; have c79b0 : (((rd_L7 l2_0 x47_2).length : Int) == 0) = false := beq_eq_false_iff_ne.mpr c79; have c79b1 : (((rd_L7 l2_0 x47_2).length : Int) != 0) = true := bne_iff_ne.mpr c79; have c79b2 : ¬ ((rd_L7 l2_0 x47_2) = []) := fun h_ => c79 (by rw [h_]; rfl)
             by_cases c80 : x8_2.length + (rd_L7 l2_0 x47_2).length < 8796093022208
             ·
              rw [if_pos c80] at H; have LMc80 := Aside0.mk c80; clear c80; obtain ⟨y239, hy239⟩ : ∃ y_ : List (S55), y_ = (x8_2 ++ (rd_L7 l2_0 x47_2)) := ⟨_, rfl⟩; replace H : (if (y239.length : Int) > 40 then (some false) else (impl_SegOk.l0 k3 a0 a1 (l2_0.length : Int) y239 l2_0 (l2_0.length : Int) (wrap64 (x47_2 + 1)) l2_0 l2_1 l2_2)) = some r := by first | (rw [hy239]; with_reducible exact H) | (have H2_ := (Option.bind_some _ _).symm.trans H; rw [hy239]; with_reducible exact H2_) | (have H2_ := (Option.bind_some _ _).symm.trans H; with_reducible exact H2_) | with_reducible exact H | (rw [hy239]; exact H) | exact H
              have Ny239 := Aside0.mk hy239; clear hy239
              by_cases c81 : (y239.length : Int) > 40
              ·
               rw [if_pos c81] at H; have c81b0 : decide (40 < (y239.length : Int)) = true := decide_eq_true c81; have c81b1 : decide (40 < y239.length) = true := decide_eq_true (by omega); clear c81; obtain rfl := Option.some.inj H
               go_wp2_with (first | ((with_reducible refine gate_builtin (b := .append) (xs := #[.tmp 85, .tmp 86]) rfl ?_); (try (refine gate_guard (by rfl) ?_; dsimp only)); at_builtin; refine Kd.R_append_rows k55 (w0 := w) w.heap.size rfl (.tmp 85) (.tmp 86) 52 55 (.agg #[(.int .i64 0), (.int .i64 0)]) 16 rfl Tryd.underlying52 info55 rfl (by decide) (by omega) u8 x8_2 (rd_L7 l2_0 x47_2) _ _ _ (fun _ => True) (fun _ => False) rfl rfl ?aO ?aR (fun _ _ h => h) (fun _ h => h.elim) ?aF ?aB ?aS ?aL ?_; (case aR => exact sq_c (Kd.C_below HR231_0.out HB.out)); (case aB => exact (sq_below HB.out)); (case aF => exact (fun _ _ => trivial)); (case aO => exact (sq_row HO_8.out)); (case aS => exact (below_size (sq_below HB.out))); (case aL => have := LMc80.out; omega); intro v240 w82 ho hb hg hat; rw [← Ny239.out] at ho; have n0_ := Aside0.mk (hb); have n1_ := Aside0.mk (ho); clear HB; clear HO_8; have HB := n0_; have HO241 := n1_; clear n0_ n1_; clear ho hb hg hat; obtain ⟨Ao83, co83, eo83⟩ := Kd.R_slice HO241.out; subst eo83))
               go_ret
               exact ⟨by first | rfl | (simp [errW_none, errW_some] <;> rfl) | (simp [*, errW_none, errW_some] <;> rfl), sq_below HB.out⟩
              ·
               rw [if_neg c81] at H; have c81b0 : decide (40 < (y239.length : Int)) = false := decide_eq_false c81; have c81b1 : decide (40 < y239.length) = false := decide_eq_false (by omega); clear c81; have H' := Aside0.mk H; clear H
               go_wp2_with (first | ((with_reducible refine gate_builtin (b := .append) (xs := #[.tmp 85, .tmp 86]) rfl ?_); (try (refine gate_guard (by rfl) ?_; dsimp only)); at_builtin; refine Kd.R_append_rows k55 (w0 := w) w.heap.size rfl (.tmp 85) (.tmp 86) 52 55 (.agg #[(.int .i64 0), (.int .i64 0)]) 16 rfl Tryd.underlying52 info55 rfl (by decide) (by omega) u8 x8_2 (rd_L7 l2_0 x47_2) _ _ _ (fun _ => True) (fun _ => False) rfl rfl ?aO ?aR (fun _ _ h => h) (fun _ h => h.elim) ?aF ?aB ?aS ?aL ?_; (case aR => exact sq_c (Kd.C_below HR231_0.out HB.out)); (case aB => exact (sq_below1 HB.out GE225.out)); (case aF => exact (fun _ _ => trivial)); (case aO => exact (sq_row HO_8.out)); (case aS => exact (below_size (sq_below1 HB.out GE225.out))); (case aL => have := LMc80.out; omega); intro v240 w84 ho hb hg hat; rw [← Ny239.out] at ho; have n0_ := Aside0.mk (blk_grown (g := gb225) (o := .cells #[.slice (some ad231) l2_0.length c2_0, .slice A2_1 l2_1.length c2_1, .slice A2_2 l2_2.length c2_2] 32 (0, 0)) (sq_blk BK225.out) hg (Kd.R_ne HO_8.out BK225.out (by decide))); have n1_ := Aside0.mk (hb); have n2_ := Aside0.mk (ho); clear BK225; clear HB; clear HO_8; have BK225 := n0_; have HB := n1_; have HO241 := n2_; clear n0_ n1_ n2_; clear ho hb hg hat; obtain ⟨Ao85, co85, eo85⟩ := Kd.R_slice HO241.out; subst eo85))
               go_roundg k3
               case measure => have := HJ3.out; have := HK2.out; have := HK3.out; omega
               case rel => exact ⟨(y239), (wrap64 (x47_2 + 1)), (by first | rfl | (simp; done) | (simp [*]; done)), H', ⟨by have := HJ3.out; have := HK2.out; have := HK3.out; omega⟩, ⟨by (with_reducible repeat (first | apply Kd.R_alloc | apply Kd.R_drewN | apply Kd.R_drew)); exact HO241.out⟩, bk_ BK225, ⟨sq_below1 HB.out GE225.out⟩⟩
             ·
              rw [if_neg c80] at H; exact absurd H (by simp)
        ·
         rw [if_neg c20] at H; exact absurd H (by simp)
       ·
        rw [if_neg c19] at H; exact absurd H (by simp)
      ·
       rw [if_neg c18] at H; have c18b0 : decide (x47_2 < (l2_0.length : Int)) = false := decide_eq_false c18; clear c18; replace H := Option.bind_eq_some_iff.mp H; obtain ⟨⟨t242, t243, t244, t245⟩, A860, H⟩ := H; (try dsimp only at H); have A86 := Aside0.mk A860; clear A860
       by_cases c87 : 0 < (l2_0.length : Int)
       ·
        rw [if_pos c87] at H; have c87b0 : decide (0 < (l2_0.length : Int)) = true := decide_eq_true c87; have c87b1 : decide (0 < l2_0.length) = true := decide_eq_true (by omega); clear c87; replace H := Option.bind_eq_some_iff.mp H; obtain ⟨t249, A880, H⟩ := H; (try dsimp only at H); have A88 := Aside0.mk A880; clear A880
        by_cases c89 : t249 = true
        ·
         subst c89; have H1 := ifp_ H
         clear H; have H := H1; clear H1; obtain ⟨ji90, hji90⟩ : ∃ j_ : Int, (wrap64 ((l2_0.length : Int) - 1)) = j_ := ⟨_, rfl⟩; replace H : (if 0 ≤ (ji90) then (if (ji90) < (l2_0.length : Int) then ((impl_Sym_35.f k2 (rd_L7 l2_0 (ji90)) t244 t245).bind fun t251 => (if t251 = true then ((slices_ContainsFunc__impl_SegOk_1.f k2 l2_1).bind fun t252 => (some (!t252))) else (some false))) else (none)) else (none)) = some r := by first | (rw [hji90] at H; exact H) | (simp only [hji90] at H ⊢; exact H)
         (try rw [hji90] at A86)
         (try rw [hji90] at A88)
         have hji90w : (IntKind.i64.wrap ((l2_0.length : Int) - 1)) = ji90 := (i64_w _).trans hji90
         by_cases c91 : 0 ≤ (ji90)
         ·
          rw [if_pos c91] at H; have c91b0 : decide (0 ≤ (ji90)) = true := decide_eq_true c91; clear c91
          by_cases c92 : (ji90) < (l2_0.length : Int)
          ·
           rw [if_pos c92] at H; have c92b0 : decide ((ji90) < (l2_0.length : Int)) = true := decide_eq_true c92; clear c92; replace H := Option.bind_eq_some_iff.mp H; obtain ⟨t251, A930, H⟩ := H; (try dsimp only at H); have A93 := Aside0.mk A930; clear A930
           by_cases c94 : t251 = true
           ·
            subst c94; have H1 := ifp_ H
            clear H; have H := H1; clear H1; replace H := Option.bind_eq_some_iff.mp H; obtain ⟨t252, A950, H⟩ := H; replace H : (some (!t252)) = some r := H; have A95 := Aside0.mk A950; clear A950; obtain rfl := Option.some.inj H
            try go_wp2_with (first | ((with_reducible refine gate_callee (f := 36) rfl ?_); refine gl_ 94 Tryd.func36 #[.int .i64 a1] (h := ?_); (with_reducible refine (impl_ends.calls a1 t242 t243 t244 t245 _ A86.out).mono ?_); rintro e w96 ⟨rfl, hb⟩; refine ⟨_, rfl, ?_⟩; replace HO_8 := Aside0.mk (Kd.R_below (sq_row HO_8.out) hb); replace BK225 := bb_ BK225 hb; replace HB := hb1_ HB hb GE225; (try clear hb)) | ((with_reducible refine gate_dst (N := 13) rfl ?_); (try (refine gate_guard (by rfl) ?_; dsimp only)); refine box_y 13 #[.int .i64 0, .int .i64 0] 55 (h := ?_); intro gb246 hg w97 hbox hb; have n0_ := Aside0.mk (Kd.R_below (Kd.R_elderB (sq_row HO_8.out) gb246 (Nat.le_of_eq hg.symm)) hb); have n1_ := Aside0.mk (blk_below (sq_blk BK225.out) hb); have n2_ := Aside0.mk (below_step (sq_below1 HB.out GE225.out) hb); have n3_ := Aside0.mk (hbox); have n4_ := ge_ hg (below_size (sq_below1 HB.out GE225.out)); have n5_ := ge_ hg (below_size (sq_below1 HB.out GE225.out)); have n6_ := nb_ hg BK225; have n7_ := Aside0.mk (Ne.symm n6_.out); clear HO_8; clear BK225; clear HB; have HO_8 := n0_; have BK225 := n1_; have HB := n2_; have BK246 := n3_; have GW246 := n4_; have GE246 := n5_; have NB225_246 := n6_; have NB246_225 := n7_; clear n0_ n1_ n2_ n3_ n4_ n5_ n6_ n7_; clear hb hbox hg) | ((with_reducible refine gate_dst (N := 14) rfl ?_); (try (refine gate_guard (by rfl) ?_; dsimp only)); refine box_y 14 #[.int .i64 0, .int .i64 0] 55 (h := ?_); intro gb247 hg w98 hbox hb; have n0_ := Aside0.mk (Kd.R_below (Kd.R_elderB (sq_row HO_8.out) gb247 (Nat.le_of_eq hg.symm)) hb); have n1_ := Aside0.mk (blk_below (sq_blk BK225.out) hb); have n2_ := Aside0.mk (blk_below (sq_blk BK246.out) hb); have n3_ := Aside0.mk (below_step (sq_below2 HB.out GE225.out GE246.out) hb); have n4_ := Aside0.mk (hbox); have n5_ := ge_ hg (below_size (sq_below2 HB.out GE225.out GE246.out)); have n6_ := ge_ hg (below_size (sq_below2 HB.out GE225.out GE246.out)); have n7_ := nb_ hg BK225; have n8_ := Aside0.mk (Ne.symm n7_.out); have n9_ := nb_ hg BK246; have n10_ := Aside0.mk (Ne.symm n9_.out); clear HO_8; clear BK225; clear BK246; clear HB; have HO_8 := n0_; have BK225 := n1_; have BK246 := n2_; have HB := n3_; have BK247 := n4_; have GW247 := n5_; have GE247 := n6_; have NB225_247 := n7_; have NB247_225 := n8_; have NB246_247 := n9_; have NB247_246 := n10_; clear n0_ n1_ n2_ n3_ n4_ n5_ n6_ n7_ n8_ n9_ n10_; clear hb hbox hg; have hnb99 := NB246_225.out; have hnc99 := NB225_246.out; have hnb100 := NB246_247.out; have hnc100 := NB247_246.out; have hcz101_0 := cl_ (v := .int .i64 0) BK246 0; have hcz101_1 := cl_ (v := .int .i64 0) BK246 1; have hfz101_0 := blk_frozen BK246.out 0; have hfz101_1 := blk_frozen BK246.out 1; have hnb102 := NB247_225.out; have hnc102 := NB225_247.out; have hcz103_0 := cl_ (v := .int .i64 0) BK247 0; have hcz103_1 := cl_ (v := .int .i64 0) BK247 1; have hfz103_0 := blk_frozen BK247.out 0; have hfz103_1 := blk_frozen BK247.out 1))
            have n0_ : Aside0 (Kd.R k55 55 ((((w98.setCell ⟨gb246, 0, none⟩ (.int .i64 t242)).setCell ⟨gb246, 1, none⟩ (.int .i64 t243)).setCell ⟨gb247, 0, none⟩ (.int .i64 t244)).setCell ⟨gb247, 1, none⟩ (.int .i64 t245)) w.heap.size (fun k_ => k_ ≠ gb246 ∧ k_ ≠ gb247) u8 x8_2) := ⟨by (with_reducible repeat (first | apply Kd.R_alloc | apply Kd.R_drewN | apply Kd.R_drew)); exact Kd.R_mono (Kd.R_far (p := ⟨gb247, 1, none⟩) (Kd.R_far (p := ⟨gb247, 0, none⟩) (Kd.R_far (p := ⟨gb246, 1, none⟩) (Kd.R_far (p := ⟨gb246, 0, none⟩) (Kd.R_mono (Kd.R_mono HO_8.out (fun k_ hk => (⟨hk, hk.1.2⟩ : _ ∧ k_ ≠ gb246))) (fun k_ hk => (⟨hk, hk.1.2⟩ : _ ∧ k_ ≠ gb247))) (fun _ hk => hk.1.2) (.int .i64 t242)) (fun _ hk => hk.1.2) (.int .i64 t243)) (fun _ hk => hk.2) (.int .i64 t244)) (fun _ hk => hk.2) (.int .i64 t245)) (fun _ hk => ⟨hk.1.1.1.2, hk.1.1.2⟩)⟩; have n1_ : Aside0 (((((w98.setCell ⟨gb246, 0, none⟩ (.int .i64 t242)).setCell ⟨gb246, 1, none⟩ (.int .i64 t243)).setCell ⟨gb247, 0, none⟩ (.int .i64 t244)).setCell ⟨gb247, 1, none⟩ (.int .i64 t245)).heap[gb225]? = some (.cells #[.slice A2_0 l2_0.length c2_0, .slice A2_1 l2_1.length c2_1, .slice A2_2 l2_2.length c2_2] 32 (0, 0))) := ⟨by (with_reducible repeat (first | refine blk_drewN ?_ _ | refine blk_drew ?_ | refine blk_alloc ?_ _)); refine blk_far ?_ NB225_247.out _; (with_reducible repeat (first | refine blk_drewN ?_ _ | refine blk_drew ?_ | refine blk_alloc ?_ _)); refine blk_far ?_ NB225_247.out _; (with_reducible repeat (first | refine blk_drewN ?_ _ | refine blk_drew ?_ | refine blk_alloc ?_ _)); refine blk_far ?_ NB225_246.out _; (with_reducible repeat (first | refine blk_drewN ?_ _ | refine blk_drew ?_ | refine blk_alloc ?_ _)); refine blk_far ?_ NB225_246.out _; (with_reducible repeat (first | refine blk_drewN ?_ _ | refine blk_drew ?_ | refine blk_alloc ?_ _)); exact BK225.out⟩; have n2_ : Aside0 (((((w98.setCell ⟨gb246, 0, none⟩ (.int .i64 t242)).setCell ⟨gb246, 1, none⟩ (.int .i64 t243)).setCell ⟨gb247, 0, none⟩ (.int .i64 t244)).setCell ⟨gb247, 1, none⟩ (.int .i64 t245)).heap[gb246]? = some (.cells #[.int .i64 t242, .int .i64 t243] 55 (0, 0))) := ⟨by (with_reducible repeat (first | refine blk_drewN ?_ _ | refine blk_drew ?_ | refine blk_alloc ?_ _)); refine blk_far ?_ NB246_247.out _; (with_reducible repeat (first | refine blk_drewN ?_ _ | refine blk_drew ?_ | refine blk_alloc ?_ _)); refine blk_far ?_ NB246_247.out _; (with_reducible repeat (first | refine blk_drewN ?_ _ | refine blk_drew ?_ | refine blk_alloc ?_ _)); refine blk_put (cs := #[.int .i64 t242, .int .i64 0]) ?_ 1 _ rfl; (with_reducible repeat (first | refine blk_drewN ?_ _ | refine blk_drew ?_ | refine blk_alloc ?_ _)); refine blk_put (cs := #[.int .i64 0, .int .i64 0]) ?_ 0 _ rfl; (with_reducible repeat (first | refine blk_drewN ?_ _ | refine blk_drew ?_ | refine blk_alloc ?_ _)); exact BK246.out⟩; have n3_ : Aside0 (((((w98.setCell ⟨gb246, 0, none⟩ (.int .i64 t242)).setCell ⟨gb246, 1, none⟩ (.int .i64 t243)).setCell ⟨gb247, 0, none⟩ (.int .i64 t244)).setCell ⟨gb247, 1, none⟩ (.int .i64 t245)).heap[gb247]? = some (.cells #[.int .i64 t244, .int .i64 t245] 55 (0, 0))) := ⟨by (with_reducible repeat (first | refine blk_drewN ?_ _ | refine blk_drew ?_ | refine blk_alloc ?_ _)); refine blk_put (cs := #[.int .i64 t244, .int .i64 0]) ?_ 1 _ rfl; (with_reducible repeat (first | refine blk_drewN ?_ _ | refine blk_drew ?_ | refine blk_alloc ?_ _)); refine blk_put (cs := #[.int .i64 0, .int .i64 0]) ?_ 0 _ rfl; (with_reducible repeat (first | refine blk_drewN ?_ _ | refine blk_drew ?_ | refine blk_alloc ?_ _)); refine blk_far ?_ NB247_246.out _; (with_reducible repeat (first | refine blk_drewN ?_ _ | refine blk_drew ?_ | refine blk_alloc ?_ _)); refine blk_far ?_ NB247_246.out _; (with_reducible repeat (first | refine blk_drewN ?_ _ | refine blk_drew ?_ | refine blk_alloc ?_ _)); exact BK247.out⟩; have n4_ : Aside0 (Below w.heap.size w ((((w98.setCell ⟨gb246, 0, none⟩ (.int .i64 t242)).setCell ⟨gb246, 1, none⟩ (.int .i64 t243)).setCell ⟨gb247, 0, none⟩ (.int .i64 t244)).setCell ⟨gb247, 1, none⟩ (.int .i64 t245))) := ⟨sq_below3 HB.out GE225.out GE246.out GE247.out⟩
            (try clear HO_8)
            (try clear BK225)
            (try clear BK246)
            (try clear BK247)
            (try clear HB)
            generalize ((((w98.setCell ⟨gb246, 0, none⟩ (.int .i64 t242)).setCell ⟨gb246, 1, none⟩ (.int .i64 t243)).setCell ⟨gb247, 0, none⟩ (.int .i64 t244)).setCell ⟨gb247, 1, none⟩ (.int .i64 t245)) = w104 at n0_ n1_ n2_ n3_ n4_ ⊢; have HO_8 := n0_; have BK225 := n1_; have BK246 := n2_; have BK247 := n3_; have HB := n4_; clear n0_ n1_ n2_ n3_ n4_; replace HO_8 := Aside0.mk (Kd.R_drew HO_8.out); replace BK225 := bd_ BK225; replace BK246 := bd_ BK246; replace BK247 := bd_ BK247; replace HB := hd_ HB; have p248 : 0 ≤ (0 : Int) := (by omega); have q248 : 0 < (l2_0.length : Int) := sq_dec; obtain ⟨ad248, A248_0, c248_0, e248, hx248_0, hl248_0, hi248_0⟩ := at_L7 HR2_0.out 0 p248 q248; have hw248_0 := hx248_0
            (try rw [show ((0 : Int)).toNat = 0 from rfl] at hw248_0)
            (try rw [show 0 * 1 = 0 from rfl] at hw248_0)
            (try rw [Addr.add_zero'] at hw248_0)
            cases e248; have qi248 : (0 < l2_0.length) = True := eq_true (by omega)
            (try rw [show ((0 : Int)).toNat = 0 from rfl] at hx248_0)
            (try rw [Addr.add_zero'] at hx248_0)
            replace hx248_0 := (HB.out.cell (World.block_lt_of_cell? w _ hx248_0)).trans hx248_0; have HR248_0 := Aside0.mk hi248_0; have HC248_0 := Aside0.mk hl248_0; clear hi248_0 hl248_0; replace p248 := eq_true p248; replace q248 := eq_true q248; have p250 : 0 ≤ ((ji90) : Int) := sq_dec; have q250 : (ji90) < (l2_0.length : Int) := sq_dec; obtain ⟨ad250, A250_0, c250_0, e250, hx250_0, hl250_0, hi250_0⟩ := at_L7 HR2_0.out (ji90) p250 q250; have hw250_0 := hx250_0; obtain rfl : ad248 = ad250 := (by injection e250); replace hx250_0 := (HB.out.cell (World.block_lt_of_cell? w _ hx250_0)).trans hx250_0; have HR250_0 := Aside0.mk hi250_0; have HC250_0 := Aside0.mk hl250_0; clear hi250_0 hl250_0; replace p250 := eq_true p250; replace q250 := eq_true q250; refine start_ (n := 23) (S := fun w' => w'.cell? ⟨gb225, 0, none⟩ = some (.slice (some ad248) l2_0.length c2_0) ∧ w'.cell? ⟨gb225, 1, none⟩ = some (.slice A2_1 l2_1.length c2_1) ∧ w'.cell? ⟨gb225, 2, none⟩ = some (.slice A2_2 l2_2.length c2_2) ∧ w'.cell? ⟨gb246, 0, none⟩ = some (.int .i64 t242) ∧ w'.cell? ⟨gb246, 1, none⟩ = some (.int .i64 t243) ∧ w'.cell? ⟨gb247, 0, none⟩ = some (.int .i64 t244) ∧ w'.cell? ⟨gb247, 1, none⟩ = some (.int .i64 t245) ∧ w'.cell? ad248 = some (.slice A248_0 (rd_L7 l2_0 0).length c248_0) ∧ w'.cell? (ad248.add ((ji90)).toNat) = some (.slice A250_0 (rd_L7 l2_0 (ji90)).length c250_0)) (ds := []) impl_SegOk.b0_ (by kernel_rfl) rfl rfl ⟨cl_ BK225 0, cl_ BK225 1, cl_ BK225 2, cl_ BK246 0, cl_ BK246 1, cl_ BK247 0, cl_ BK247 1, ((HB.out.cell (World.block_lt_of_cell? w _ hw248_0)).trans hw248_0), ((HB.out.cell (World.block_lt_of_cell? w _ hw250_0)).trans hw250_0)⟩ (fun hHeld => ?_); refine with_tabW impl_SegOk.tab21 impl_SegOk.bits21 (fun HT_ HW_ => ?_); generalize w104.drew = w105 at HO_8 BK225 BK246 BK247 HB HR248_0 HR250_0 hx248_0 hx250_0 hHeld ⊢; refine pure_y 0 (some 97) impl_SegOk.b1_ (any_of HT_.out (by kernel_rfl)) (h := ?_)
            refine take_y 1 (some 98) impl_SegOk.b2_ rfl (take_ofW HT_.out HW_.out (by kernel_rfl)) hHeld (Or.inl ⟨by rfl, (by rintro w' ⟨s0, s1, s2, s3, s4, s5, s6, s7, s8⟩; go_simp; with_reducible rfl)⟩) (h := ?_)
            refine pure_y 2 (some 99) impl_SegOk.b3_ (any_of HT_.out (by kernel_rfl)) (h := ?_)
            refine take_y 3 (some 100) impl_SegOk.b4_ rfl (take_ofW HT_.out HW_.out (by kernel_rfl)) hHeld (Or.inl ⟨by rfl, (by rintro w' ⟨s0, s1, s2, s3, s4, s5, s6, s7, s8⟩; go_simp; with_reducible rfl)⟩) (h := ?_)
            refine take_y 4 (some 101) impl_SegOk.b5_ rfl (take_ofW HT_.out HW_.out (by kernel_rfl)) hHeld (Or.inl ⟨by rfl, (by rintro w' ⟨s0, s1, s2, s3, s4, s5, s6, s7, s8⟩; go_simp; with_reducible rfl)⟩) (h := ?_)
            refine one_ (i := 5) (N := some 102) impl_SegOk.b6_ rfl rfl (one_of HT_.out (by kernel_rfl)) (by decide) (fun K hK => ?_); refine gs_ Tryd.func35 #[.slice A248_0 (rd_L7 l2_0 0).length c248_0, .agg #[.int .i64 t242, .int .i64 t243]] (h := ?_); with_reducible refine (impl_Sym_35.calls k2 _ _ (rd_L7 l2_0 0) t242 t243 true _ ?side1 ?side2 A88.out).mono ?_
            (case side1 => exact sq_c (Kd.C_below HR248_0.out HB.out))
            (case side2 => exact HC248_0.out)
            rintro e w106 ⟨rfl, hb⟩; refine ⟨_, rfl, ?_⟩; replace HO_8 := Aside0.mk (Kd.R_below (sq_row HO_8.out) hb); replace BK225 := bb_ BK225 hb; replace BK246 := bb_ BK246 hb; replace BK247 := bb_ BK247 hb; replace HB := hb3_ HB hb GE225 GE246 GE247
            (try clear hb)
            (try clear hb2)
            (try clear hk)
            (try clear hi)
            refine hK.out _ _ ⟨cl_ BK225 0, cl_ BK225 1, cl_ BK225 2, cl_ BK246 0, cl_ BK246 1, cl_ BK247 0, cl_ BK247 1, ((HB.out.cell (World.block_lt_of_cell? w _ hw248_0)).trans hw248_0), ((HB.out.cell (World.block_lt_of_cell? w _ hw250_0)).trans hw250_0)⟩ (fun hHeld => ?_); clear hK K; refine norm_y 102 (h := ?_)
            refine pure_y 6 (some 103) impl_SegOk.b7_ (any_of HT_.out (by kernel_rfl)) (h := ?_)
            refine pure_y 7 (some 104) impl_SegOk.b8_ (any_of HT_.out (by kernel_rfl)) (h := ?_)
            refine pure_y 9 (some 106) impl_SegOk.b10_ (any_of HT_.out (by kernel_rfl)) (h := ?_)
            refine pure_y 10 (some 107) impl_SegOk.b12_ (any_of HT_.out (by kernel_rfl)) (h := ?_)
            refine take_y 8 (some 105) impl_SegOk.b13_ rfl (take_ofW HT_.out HW_.out (by kernel_rfl)) hHeld (Or.inl ⟨by rfl, (by rintro w' ⟨s0, s1, s2, s3, s4, s5, s6, s7, s8⟩; go_simp; with_reducible rfl)⟩) (h := ?_)
            refine pure_y 11 (some 108) impl_SegOk.b14_ (any_of HT_.out (by kernel_rfl)) (h := ?_)
            refine take_y 12 (some 109) impl_SegOk.b15_ rfl (take_ofW HT_.out HW_.out (by kernel_rfl)) hHeld (Or.inl ⟨by rfl, (by rintro w' ⟨s0, s1, s2, s3, s4, s5, s6, s7, s8⟩; go_simp; with_reducible rfl)⟩) (h := ?_)
            refine take_y 13 (some 110) impl_SegOk.b16_ rfl (take_ofW HT_.out HW_.out (by kernel_rfl)) hHeld (Or.inl ⟨by rfl, (by rintro w' ⟨s0, s1, s2, s3, s4, s5, s6, s7, s8⟩; go_simp; with_reducible rfl)⟩) (h := ?_)
            refine one_ (i := 14) (N := some 111) impl_SegOk.b17_ rfl rfl (one_of HT_.out (by kernel_rfl)) (by decide) (fun K hK => ?_); refine goes_ Tryd.func35 (by kernel_rfl) rfl #[.slice A250_0 (rd_L7 l2_0 (ji90)).length c250_0, .agg #[.int .i64 t244, .int .i64 t245]] (by rfl) rfl rfl (by (try simp only [List.map_toArray, List.map_cons, List.map_nil]); first | done | (simp only [hji90]; rfl) | rfl | (simp only [List.length_drop, List.length_take]; rfl)) ?_; with_reducible refine (impl_Sym_35.calls k2 _ _ (rd_L7 l2_0 (ji90)) t244 t245 true _ ?side1 ?side2 A93.out).mono ?_
            (case side1 => exact sq_c (Kd.C_below HR250_0.out HB.out))
            (case side2 => exact HC250_0.out)
            rintro e w107 ⟨rfl, hb⟩; refine ⟨_, rfl, ?_⟩; replace HO_8 := Aside0.mk (Kd.R_below (sq_row HO_8.out) hb); replace BK225 := bb_ BK225 hb; replace BK246 := bb_ BK246 hb; replace BK247 := bb_ BK247 hb; replace HB := hb3_ HB hb GE225 GE246 GE247
            (try clear hb)
            (try clear hb2)
            (try clear hk)
            (try clear hi)
            refine hK.out _ _ ⟨cl_ BK225 0, cl_ BK225 1, cl_ BK225 2, cl_ BK246 0, cl_ BK246 1, cl_ BK247 0, cl_ BK247 1, ((HB.out.cell (World.block_lt_of_cell? w _ hw248_0)).trans hw248_0), ((HB.out.cell (World.block_lt_of_cell? w _ hw250_0)).trans hw250_0)⟩ (fun hHeld => ?_); clear hK K; refine norm_y 111 (h := ?_)
            refine pure_y 15 (some 112) impl_SegOk.b18_ (any_of HT_.out (by kernel_rfl)) (h := ?_)
            refine pure_y 16 (some 113) impl_SegOk.b19_ (any_of HT_.out (by kernel_rfl)) (h := ?_)
            refine pure_y 17 (some 114) impl_SegOk.b20_ (any_of HT_.out (by kernel_rfl)) (h := ?_)
            refine take_y 18 (some 115) impl_SegOk.b21_ rfl (take_ofW HT_.out HW_.out (by kernel_rfl)) hHeld (Or.inl ⟨by rfl, (by rintro w' ⟨s0, s1, s2, s3, s4, s5, s6, s7, s8⟩; go_simp; with_reducible rfl)⟩) (h := ?_)
            refine one_ (i := 19) (N := some 116) impl_SegOk.b22_ rfl rfl (one_of HT_.out (by kernel_rfl)) (by decide) (fun K hK => ?_); refine gs_ Tryd.func37 #[.slice A2_1 l2_1.length c2_1, .func (.func 38) #[] #[]] (h := ?_); with_reducible refine (slices_ContainsFunc__impl_SegOk_1.calls k2 _ _ l2_1  t252 _ ?side3 ?side1 ?side2 A95.out).mono ?_
            (case side1 => exact sq_c (Kd.C_below HR2_1.out HB.out))
            (case side2 => exact HC2_1.out)
            (case side3 => exact GL0.below HG0.out (sq_below3 HB.out GE225.out GE246.out GE247.out))
            rintro e w108 ⟨rfl, hb⟩; refine ⟨_, rfl, ?_⟩; replace HO_8 := Aside0.mk (Kd.R_below (sq_row HO_8.out) hb); replace BK225 := bb_ BK225 hb; replace BK246 := bb_ BK246 hb; replace BK247 := bb_ BK247 hb; replace HB := hb3_ HB hb GE225 GE246 GE247
            (try clear hb)
            (try clear hb2)
            (try clear hk)
            (try clear hi)
            refine hK.out _ _ ⟨cl_ BK225 0, cl_ BK225 1, cl_ BK225 2, cl_ BK246 0, cl_ BK246 1, cl_ BK247 0, cl_ BK247 1, ((HB.out.cell (World.block_lt_of_cell? w _ hw248_0)).trans hw248_0), ((HB.out.cell (World.block_lt_of_cell? w _ hw250_0)).trans hw250_0)⟩ (fun hHeld => ?_); clear hK K; refine norm_y 116 (h := ?_)
            refine pure_y 20 (some 117) impl_SegOk.b23_ (any_of HT_.out (by kernel_rfl)) (h := ?_)
            refine pure_y 21 (some 118) impl_SegOk.b24_ (any_of HT_.out (by kernel_rfl)) (h := ?_)
            refine pure_y 22 (some 6) impl_SegOk.b25_ (any_of HT_.out (by kernel_rfl)) (h := ?_)
            refine done_ (done_of HT_.out (by kernel_rfl)) ?_
            try go_wp2
            go_ret
            exact ⟨by first | rfl | (simp [errW_none, errW_some] <;> rfl) | (simp only [← hji90]; first | rfl | (simp [errW_none, errW_some] <;> rfl)) | (simp [*, errW_none, errW_some] <;> rfl), sq_below3 HB.out GE225.out GE246.out GE247.out⟩
           ·
            replace c94 := Bool.eq_false_iff.mpr c94; subst c94; have H1 := ifn_ H
            clear H; have H := H1; clear H1; obtain rfl := Option.some.inj H
            try go_wp2_with (first | ((with_reducible refine gate_callee (f := 36) rfl ?_); refine gl_ 94 Tryd.func36 #[.int .i64 a1] (h := ?_); (with_reducible refine (impl_ends.calls a1 t242 t243 t244 t245 _ A86.out).mono ?_); rintro e w109 ⟨rfl, hb⟩; refine ⟨_, rfl, ?_⟩; replace HO_8 := Aside0.mk (Kd.R_below (sq_row HO_8.out) hb); replace BK225 := bb_ BK225 hb; replace HB := hb1_ HB hb GE225; (try clear hb)) | ((with_reducible refine gate_dst (N := 13) rfl ?_); (try (refine gate_guard (by rfl) ?_; dsimp only)); refine box_y 13 #[.int .i64 0, .int .i64 0] 55 (h := ?_); intro gb246 hg w110 hbox hb; have n0_ := Aside0.mk (Kd.R_below (Kd.R_elderB (sq_row HO_8.out) gb246 (Nat.le_of_eq hg.symm)) hb); have n1_ := Aside0.mk (blk_below (sq_blk BK225.out) hb); have n2_ := Aside0.mk (below_step (sq_below1 HB.out GE225.out) hb); have n3_ := Aside0.mk (hbox); have n4_ := ge_ hg (below_size (sq_below1 HB.out GE225.out)); have n5_ := ge_ hg (below_size (sq_below1 HB.out GE225.out)); have n6_ := nb_ hg BK225; have n7_ := Aside0.mk (Ne.symm n6_.out); clear HO_8; clear BK225; clear HB; have HO_8 := n0_; have BK225 := n1_; have HB := n2_; have BK246 := n3_; have GW246 := n4_; have GE246 := n5_; have NB225_246 := n6_; have NB246_225 := n7_; clear n0_ n1_ n2_ n3_ n4_ n5_ n6_ n7_; clear hb hbox hg) | ((with_reducible refine gate_dst (N := 14) rfl ?_); (try (refine gate_guard (by rfl) ?_; dsimp only)); refine box_y 14 #[.int .i64 0, .int .i64 0] 55 (h := ?_); intro gb247 hg w111 hbox hb; have n0_ := Aside0.mk (Kd.R_below (Kd.R_elderB (sq_row HO_8.out) gb247 (Nat.le_of_eq hg.symm)) hb); have n1_ := Aside0.mk (blk_below (sq_blk BK225.out) hb); have n2_ := Aside0.mk (blk_below (sq_blk BK246.out) hb); have n3_ := Aside0.mk (below_step (sq_below2 HB.out GE225.out GE246.out) hb); have n4_ := Aside0.mk (hbox); have n5_ := ge_ hg (below_size (sq_below2 HB.out GE225.out GE246.out)); have n6_ := ge_ hg (below_size (sq_below2 HB.out GE225.out GE246.out)); have n7_ := nb_ hg BK225; have n8_ := Aside0.mk (Ne.symm n7_.out); have n9_ := nb_ hg BK246; have n10_ := Aside0.mk (Ne.symm n9_.out); clear HO_8; clear BK225; clear BK246; clear HB; have HO_8 := n0_; have BK225 := n1_; have BK246 := n2_; have HB := n3_; have BK247 := n4_; have GW247 := n5_; have GE247 := n6_; have NB225_247 := n7_; have NB247_225 := n8_; have NB246_247 := n9_; have NB247_246 := n10_; clear n0_ n1_ n2_ n3_ n4_ n5_ n6_ n7_ n8_ n9_ n10_; clear hb hbox hg; have hnb112 := NB246_225.out; have hnc112 := NB225_246.out; have hnb113 := NB246_247.out; have hnc113 := NB247_246.out; have hcz114_0 := cl_ (v := .int .i64 0) BK246 0; have hcz114_1 := cl_ (v := .int .i64 0) BK246 1; have hfz114_0 := blk_frozen BK246.out 0; have hfz114_1 := blk_frozen BK246.out 1; have hnb115 := NB247_225.out; have hnc115 := NB225_247.out; have hcz116_0 := cl_ (v := .int .i64 0) BK247 0; have hcz116_1 := cl_ (v := .int .i64 0) BK247 1; have hfz116_0 := blk_frozen BK247.out 0; have hfz116_1 := blk_frozen BK247.out 1))
            have n0_ : Aside0 (Kd.R k55 55 ((((w111.setCell ⟨gb246, 0, none⟩ (.int .i64 t242)).setCell ⟨gb246, 1, none⟩ (.int .i64 t243)).setCell ⟨gb247, 0, none⟩ (.int .i64 t244)).setCell ⟨gb247, 1, none⟩ (.int .i64 t245)) w.heap.size (fun k_ => k_ ≠ gb246 ∧ k_ ≠ gb247) u8 x8_2) := ⟨by (with_reducible repeat (first | apply Kd.R_alloc | apply Kd.R_drewN | apply Kd.R_drew)); exact Kd.R_mono (Kd.R_far (p := ⟨gb247, 1, none⟩) (Kd.R_far (p := ⟨gb247, 0, none⟩) (Kd.R_far (p := ⟨gb246, 1, none⟩) (Kd.R_far (p := ⟨gb246, 0, none⟩) (Kd.R_mono (Kd.R_mono HO_8.out (fun k_ hk => (⟨hk, hk.1.2⟩ : _ ∧ k_ ≠ gb246))) (fun k_ hk => (⟨hk, hk.1.2⟩ : _ ∧ k_ ≠ gb247))) (fun _ hk => hk.1.2) (.int .i64 t242)) (fun _ hk => hk.1.2) (.int .i64 t243)) (fun _ hk => hk.2) (.int .i64 t244)) (fun _ hk => hk.2) (.int .i64 t245)) (fun _ hk => ⟨hk.1.1.1.2, hk.1.1.2⟩)⟩; have n1_ : Aside0 (((((w111.setCell ⟨gb246, 0, none⟩ (.int .i64 t242)).setCell ⟨gb246, 1, none⟩ (.int .i64 t243)).setCell ⟨gb247, 0, none⟩ (.int .i64 t244)).setCell ⟨gb247, 1, none⟩ (.int .i64 t245)).heap[gb225]? = some (.cells #[.slice A2_0 l2_0.length c2_0, .slice A2_1 l2_1.length c2_1, .slice A2_2 l2_2.length c2_2] 32 (0, 0))) := ⟨by (with_reducible repeat (first | refine blk_drewN ?_ _ | refine blk_drew ?_ | refine blk_alloc ?_ _)); refine blk_far ?_ NB225_247.out _; (with_reducible repeat (first | refine blk_drewN ?_ _ | refine blk_drew ?_ | refine blk_alloc ?_ _)); refine blk_far ?_ NB225_247.out _; (with_reducible repeat (first | refine blk_drewN ?_ _ | refine blk_drew ?_ | refine blk_alloc ?_ _)); refine blk_far ?_ NB225_246.out _; (with_reducible repeat (first | refine blk_drewN ?_ _ | refine blk_drew ?_ | refine blk_alloc ?_ _)); refine blk_far ?_ NB225_246.out _; (with_reducible repeat (first | refine blk_drewN ?_ _ | refine blk_drew ?_ | refine blk_alloc ?_ _)); exact BK225.out⟩; have n2_ : Aside0 (((((w111.setCell ⟨gb246, 0, none⟩ (.int .i64 t242)).setCell ⟨gb246, 1, none⟩ (.int .i64 t243)).setCell ⟨gb247, 0, none⟩ (.int .i64 t244)).setCell ⟨gb247, 1, none⟩ (.int .i64 t245)).heap[gb246]? = some (.cells #[.int .i64 t242, .int .i64 t243] 55 (0, 0))) := ⟨by (with_reducible repeat (first | refine blk_drewN ?_ _ | refine blk_drew ?_ | refine blk_alloc ?_ _)); refine blk_far ?_ NB246_247.out _; (with_reducible repeat (first | refine blk_drewN ?_ _ | refine blk_drew ?_ | refine blk_alloc ?_ _)); refine blk_far ?_ NB246_247.out _; (with_reducible repeat (first | refine blk_drewN ?_ _ | refine blk_drew ?_ | refine blk_alloc ?_ _)); refine blk_put (cs := #[.int .i64 t242, .int .i64 0]) ?_ 1 _ rfl; (with_reducible repeat (first | refine blk_drewN ?_ _ | refine blk_drew ?_ | refine blk_alloc ?_ _)); refine blk_put (cs := #[.int .i64 0, .int .i64 0]) ?_ 0 _ rfl; (with_reducible repeat (first | refine blk_drewN ?_ _ | refine blk_drew ?_ | refine blk_alloc ?_ _)); exact BK246.out⟩; have n3_ : Aside0 (((((w111.setCell ⟨gb246, 0, none⟩ (.int .i64 t242)).setCell ⟨gb246, 1, none⟩ (.int .i64 t243)).setCell ⟨gb247, 0, none⟩ (.int .i64 t244)).setCell ⟨gb247, 1, none⟩ (.int .i64 t245)).heap[gb247]? = some (.cells #[.int .i64 t244, .int .i64 t245] 55 (0, 0))) := ⟨by (with_reducible repeat (first | refine blk_drewN ?_ _ | refine blk_drew ?_ | refine blk_alloc ?_ _)); refine blk_put (cs := #[.int .i64 t244, .int .i64 0]) ?_ 1 _ rfl; (with_reducible repeat (first | refine blk_drewN ?_ _ | refine blk_drew ?_ | refine blk_alloc ?_ _)); refine blk_put (cs := #[.int .i64 0, .int .i64 0]) ?_ 0 _ rfl; (with_reducible repeat (first | refine blk_drewN ?_ _ | refine blk_drew ?_ | refine blk_alloc ?_ _)); refine blk_far ?_ NB247_246.out _; (with_reducible repeat (first | refine blk_drewN ?_ _ | refine blk_drew ?_ | refine blk_alloc ?_ _)); refine blk_far ?_ NB247_246.out _; (with_reducible repeat (first | refine blk_drewN ?_ _ | refine blk_drew ?_ | refine blk_alloc ?_ _)); exact BK247.out⟩; have n4_ : Aside0 (Below w.heap.size w ((((w111.setCell ⟨gb246, 0, none⟩ (.int .i64 t242)).setCell ⟨gb246, 1, none⟩ (.int .i64 t243)).setCell ⟨gb247, 0, none⟩ (.int .i64 t244)).setCell ⟨gb247, 1, none⟩ (.int .i64 t245))) := ⟨sq_below3 HB.out GE225.out GE246.out GE247.out⟩
            (try clear HO_8)
            (try clear BK225)
            (try clear BK246)
            (try clear BK247)
            (try clear HB)
            generalize ((((w111.setCell ⟨gb246, 0, none⟩ (.int .i64 t242)).setCell ⟨gb246, 1, none⟩ (.int .i64 t243)).setCell ⟨gb247, 0, none⟩ (.int .i64 t244)).setCell ⟨gb247, 1, none⟩ (.int .i64 t245)) = w117 at n0_ n1_ n2_ n3_ n4_ ⊢; have HO_8 := n0_; have BK225 := n1_; have BK246 := n2_; have BK247 := n3_; have HB := n4_; clear n0_ n1_ n2_ n3_ n4_; replace HO_8 := Aside0.mk (Kd.R_drew HO_8.out); replace BK225 := bd_ BK225; replace BK246 := bd_ BK246; replace BK247 := bd_ BK247; replace HB := hd_ HB; have p248 : 0 ≤ (0 : Int) := (by omega); have q248 : 0 < (l2_0.length : Int) := sq_dec; obtain ⟨ad248, A248_0, c248_0, e248, hx248_0, hl248_0, hi248_0⟩ := at_L7 HR2_0.out 0 p248 q248; have hw248_0 := hx248_0
            (try rw [show ((0 : Int)).toNat = 0 from rfl] at hw248_0)
            (try rw [show 0 * 1 = 0 from rfl] at hw248_0)
            (try rw [Addr.add_zero'] at hw248_0)
            cases e248; have qi248 : (0 < l2_0.length) = True := eq_true (by omega)
            (try rw [show ((0 : Int)).toNat = 0 from rfl] at hx248_0)
            (try rw [Addr.add_zero'] at hx248_0)
            replace hx248_0 := (HB.out.cell (World.block_lt_of_cell? w _ hx248_0)).trans hx248_0; have HR248_0 := Aside0.mk hi248_0; have HC248_0 := Aside0.mk hl248_0; clear hi248_0 hl248_0; replace p248 := eq_true p248; replace q248 := eq_true q248; have p250 : 0 ≤ ((ji90) : Int) := sq_dec; have q250 : (ji90) < (l2_0.length : Int) := sq_dec; obtain ⟨ad250, A250_0, c250_0, e250, hx250_0, hl250_0, hi250_0⟩ := at_L7 HR2_0.out (ji90) p250 q250; have hw250_0 := hx250_0; obtain rfl : ad248 = ad250 := (by injection e250); replace hx250_0 := (HB.out.cell (World.block_lt_of_cell? w _ hx250_0)).trans hx250_0; have HR250_0 := Aside0.mk hi250_0; have HC250_0 := Aside0.mk hl250_0; clear hi250_0 hl250_0; replace p250 := eq_true p250; replace q250 := eq_true q250; refine start_ (n := 23) (S := fun w' => w'.cell? ⟨gb225, 0, none⟩ = some (.slice (some ad248) l2_0.length c2_0) ∧ w'.cell? ⟨gb225, 1, none⟩ = some (.slice A2_1 l2_1.length c2_1) ∧ w'.cell? ⟨gb225, 2, none⟩ = some (.slice A2_2 l2_2.length c2_2) ∧ w'.cell? ⟨gb246, 0, none⟩ = some (.int .i64 t242) ∧ w'.cell? ⟨gb246, 1, none⟩ = some (.int .i64 t243) ∧ w'.cell? ⟨gb247, 0, none⟩ = some (.int .i64 t244) ∧ w'.cell? ⟨gb247, 1, none⟩ = some (.int .i64 t245) ∧ w'.cell? ad248 = some (.slice A248_0 (rd_L7 l2_0 0).length c248_0) ∧ w'.cell? (ad248.add ((ji90)).toNat) = some (.slice A250_0 (rd_L7 l2_0 (ji90)).length c250_0)) (ds := []) impl_SegOk.b0_ (by kernel_rfl) rfl rfl ⟨cl_ BK225 0, cl_ BK225 1, cl_ BK225 2, cl_ BK246 0, cl_ BK246 1, cl_ BK247 0, cl_ BK247 1, ((HB.out.cell (World.block_lt_of_cell? w _ hw248_0)).trans hw248_0), ((HB.out.cell (World.block_lt_of_cell? w _ hw250_0)).trans hw250_0)⟩ (fun hHeld => ?_); refine with_tabW impl_SegOk.tab21 impl_SegOk.bits21 (fun HT_ HW_ => ?_); generalize w117.drew = w118 at HO_8 BK225 BK246 BK247 HB HR248_0 HR250_0 hx248_0 hx250_0 hHeld ⊢; refine pure_y 0 (some 97) impl_SegOk.b1_ (any_of HT_.out (by kernel_rfl)) (h := ?_)
            refine take_y 1 (some 98) impl_SegOk.b2_ rfl (take_ofW HT_.out HW_.out (by kernel_rfl)) hHeld (Or.inl ⟨by rfl, (by rintro w' ⟨s0, s1, s2, s3, s4, s5, s6, s7, s8⟩; go_simp; with_reducible rfl)⟩) (h := ?_)
            refine pure_y 2 (some 99) impl_SegOk.b3_ (any_of HT_.out (by kernel_rfl)) (h := ?_)
            refine take_y 3 (some 100) impl_SegOk.b4_ rfl (take_ofW HT_.out HW_.out (by kernel_rfl)) hHeld (Or.inl ⟨by rfl, (by rintro w' ⟨s0, s1, s2, s3, s4, s5, s6, s7, s8⟩; go_simp; with_reducible rfl)⟩) (h := ?_)
            refine take_y 4 (some 101) impl_SegOk.b5_ rfl (take_ofW HT_.out HW_.out (by kernel_rfl)) hHeld (Or.inl ⟨by rfl, (by rintro w' ⟨s0, s1, s2, s3, s4, s5, s6, s7, s8⟩; go_simp; with_reducible rfl)⟩) (h := ?_)
            refine one_ (i := 5) (N := some 102) impl_SegOk.b6_ rfl rfl (one_of HT_.out (by kernel_rfl)) (by decide) (fun K hK => ?_); refine gs_ Tryd.func35 #[.slice A248_0 (rd_L7 l2_0 0).length c248_0, .agg #[.int .i64 t242, .int .i64 t243]] (h := ?_); with_reducible refine (impl_Sym_35.calls k2 _ _ (rd_L7 l2_0 0) t242 t243 true _ ?side1 ?side2 A88.out).mono ?_
            (case side1 => exact sq_c (Kd.C_below HR248_0.out HB.out))
            (case side2 => exact HC248_0.out)
            rintro e w119 ⟨rfl, hb⟩; refine ⟨_, rfl, ?_⟩; replace HO_8 := Aside0.mk (Kd.R_below (sq_row HO_8.out) hb); replace BK225 := bb_ BK225 hb; replace BK246 := bb_ BK246 hb; replace BK247 := bb_ BK247 hb; replace HB := hb3_ HB hb GE225 GE246 GE247
            (try clear hb)
            (try clear hb2)
            (try clear hk)
            (try clear hi)
            refine hK.out _ _ ⟨cl_ BK225 0, cl_ BK225 1, cl_ BK225 2, cl_ BK246 0, cl_ BK246 1, cl_ BK247 0, cl_ BK247 1, ((HB.out.cell (World.block_lt_of_cell? w _ hw248_0)).trans hw248_0), ((HB.out.cell (World.block_lt_of_cell? w _ hw250_0)).trans hw250_0)⟩ (fun hHeld => ?_); clear hK K; refine norm_y 102 (h := ?_)
            refine pure_y 6 (some 103) impl_SegOk.b7_ (any_of HT_.out (by kernel_rfl)) (h := ?_)
            refine pure_y 7 (some 104) impl_SegOk.b8_ (any_of HT_.out (by kernel_rfl)) (h := ?_)
            refine pure_y 9 (some 106) impl_SegOk.b10_ (any_of HT_.out (by kernel_rfl)) (h := ?_)
            refine pure_y 10 (some 107) impl_SegOk.b12_ (any_of HT_.out (by kernel_rfl)) (h := ?_)
            refine take_y 8 (some 105) impl_SegOk.b13_ rfl (take_ofW HT_.out HW_.out (by kernel_rfl)) hHeld (Or.inl ⟨by rfl, (by rintro w' ⟨s0, s1, s2, s3, s4, s5, s6, s7, s8⟩; go_simp; with_reducible rfl)⟩) (h := ?_)
            refine pure_y 11 (some 108) impl_SegOk.b14_ (any_of HT_.out (by kernel_rfl)) (h := ?_)
            refine take_y 12 (some 109) impl_SegOk.b15_ rfl (take_ofW HT_.out HW_.out (by kernel_rfl)) hHeld (Or.inl ⟨by rfl, (by rintro w' ⟨s0, s1, s2, s3, s4, s5, s6, s7, s8⟩; go_simp; with_reducible rfl)⟩) (h := ?_)
            refine take_y 13 (some 110) impl_SegOk.b16_ rfl (take_ofW HT_.out HW_.out (by kernel_rfl)) hHeld (Or.inl ⟨by rfl, (by rintro w' ⟨s0, s1, s2, s3, s4, s5, s6, s7, s8⟩; go_simp; with_reducible rfl)⟩) (h := ?_)
            refine one_ (i := 14) (N := some 111) impl_SegOk.b17_ rfl rfl (one_of HT_.out (by kernel_rfl)) (by decide) (fun K hK => ?_); refine goes_ Tryd.func35 (by kernel_rfl) rfl #[.slice A250_0 (rd_L7 l2_0 (ji90)).length c250_0, .agg #[.int .i64 t244, .int .i64 t245]] (by rfl) rfl rfl (by (try simp only [List.map_toArray, List.map_cons, List.map_nil]); first | done | (simp only [hji90]; rfl) | rfl | (simp only [List.length_drop, List.length_take]; rfl)) ?_; with_reducible refine (impl_Sym_35.calls k2 _ _ (rd_L7 l2_0 (ji90)) t244 t245 false _ ?side1 ?side2 A93.out).mono ?_
            (case side1 => exact sq_c (Kd.C_below HR250_0.out HB.out))
            (case side2 => exact HC250_0.out)
            rintro e w120 ⟨rfl, hb⟩; refine ⟨_, rfl, ?_⟩; replace HO_8 := Aside0.mk (Kd.R_below (sq_row HO_8.out) hb); replace BK225 := bb_ BK225 hb; replace BK246 := bb_ BK246 hb; replace BK247 := bb_ BK247 hb; replace HB := hb3_ HB hb GE225 GE246 GE247
            (try clear hb)
            (try clear hb2)
            (try clear hk)
            (try clear hi)
            refine hK.out _ _ ⟨cl_ BK225 0, cl_ BK225 1, cl_ BK225 2, cl_ BK246 0, cl_ BK246 1, cl_ BK247 0, cl_ BK247 1, ((HB.out.cell (World.block_lt_of_cell? w _ hw248_0)).trans hw248_0), ((HB.out.cell (World.block_lt_of_cell? w _ hw250_0)).trans hw250_0)⟩ (fun hHeld => ?_); clear hK K; refine norm_y 111 (h := ?_)
            refine pure_y 15 (some 112) impl_SegOk.b18_ (any_of HT_.out (by kernel_rfl)) (h := ?_)
            refine pure_y 16 (some 113) impl_SegOk.b19_ (any_of HT_.out (by kernel_rfl)) (h := ?_)
            refine pure_n 17 (some 114) impl_SegOk.b20_ (any_of HT_.out (by kernel_rfl)) (h := ?_)
            refine pure_n 18 (some 115) impl_SegOk.b21_ (any_of HT_.out (by kernel_rfl)) (h := ?_)
            refine pure_n 19 (some 116) impl_SegOk.b22_ (any_of HT_.out (by kernel_rfl)) (h := ?_)
            refine pure_n 20 (some 117) impl_SegOk.b23_ (any_of HT_.out (by kernel_rfl)) (h := ?_)
            refine pure_y 21 (some 118) impl_SegOk.b24_ (any_of HT_.out (by kernel_rfl)) (h := ?_)
            refine pure_y 22 (some 6) impl_SegOk.b25_ (any_of HT_.out (by kernel_rfl)) (h := ?_)
            refine done_ (done_of HT_.out (by kernel_rfl)) ?_
            try go_wp2
            go_ret
            exact ⟨by first | rfl | (simp [errW_none, errW_some] <;> rfl) | (simp only [← hji90]; first | rfl | (simp [errW_none, errW_some] <;> rfl)) | (simp [*, errW_none, errW_some] <;> rfl), sq_below3 HB.out GE225.out GE246.out GE247.out⟩
          ·
           rw [if_neg c92] at H; exact absurd H (by simp)
         ·
          rw [if_neg c91] at H; exact absurd H (by simp)
        ·
         replace c89 := Bool.eq_false_iff.mpr c89; subst c89; have H1 := ifn_ H
         clear H; have H := H1; clear H1; obtain rfl := Option.some.inj H
         try go_wp2_with (first | ((with_reducible refine gate_callee (f := 36) rfl ?_); refine gl_ 94 Tryd.func36 #[.int .i64 a1] (h := ?_); (with_reducible refine (impl_ends.calls a1 t242 t243 t244 t245 _ A86.out).mono ?_); rintro e w121 ⟨rfl, hb⟩; refine ⟨_, rfl, ?_⟩; replace HO_8 := Aside0.mk (Kd.R_below (sq_row HO_8.out) hb); replace BK225 := bb_ BK225 hb; replace HB := hb1_ HB hb GE225; (try clear hb)) | ((with_reducible refine gate_dst (N := 13) rfl ?_); (try (refine gate_guard (by rfl) ?_; dsimp only)); refine box_y 13 #[.int .i64 0, .int .i64 0] 55 (h := ?_); intro gb246 hg w122 hbox hb; have n0_ := Aside0.mk (Kd.R_below (Kd.R_elderB (sq_row HO_8.out) gb246 (Nat.le_of_eq hg.symm)) hb); have n1_ := Aside0.mk (blk_below (sq_blk BK225.out) hb); have n2_ := Aside0.mk (below_step (sq_below1 HB.out GE225.out) hb); have n3_ := Aside0.mk (hbox); have n4_ := ge_ hg (below_size (sq_below1 HB.out GE225.out)); have n5_ := ge_ hg (below_size (sq_below1 HB.out GE225.out)); have n6_ := nb_ hg BK225; have n7_ := Aside0.mk (Ne.symm n6_.out); clear HO_8; clear BK225; clear HB; have HO_8 := n0_; have BK225 := n1_; have HB := n2_; have BK246 := n3_; have GW246 := n4_; have GE246 := n5_; have NB225_246 := n6_; have NB246_225 := n7_; clear n0_ n1_ n2_ n3_ n4_ n5_ n6_ n7_; clear hb hbox hg) | ((with_reducible refine gate_dst (N := 14) rfl ?_); (try (refine gate_guard (by rfl) ?_; dsimp only)); refine box_y 14 #[.int .i64 0, .int .i64 0] 55 (h := ?_); intro gb247 hg w123 hbox hb; have n0_ := Aside0.mk (Kd.R_below (Kd.R_elderB (sq_row HO_8.out) gb247 (Nat.le_of_eq hg.symm)) hb); have n1_ := Aside0.mk (blk_below (sq_blk BK225.out) hb); have n2_ := Aside0.mk (blk_below (sq_blk BK246.out) hb); have n3_ := Aside0.mk (below_step (sq_below2 HB.out GE225.out GE246.out) hb); have n4_ := Aside0.mk (hbox); have n5_ := ge_ hg (below_size (sq_below2 HB.out GE225.out GE246.out)); have n6_ := ge_ hg (below_size (sq_below2 HB.out GE225.out GE246.out)); have n7_ := nb_ hg BK225; have n8_ := Aside0.mk (Ne.symm n7_.out); have n9_ := nb_ hg BK246; have n10_ := Aside0.mk (Ne.symm n9_.out); clear HO_8; clear BK225; clear BK246; clear HB; have HO_8 := n0_; have BK225 := n1_; have BK246 := n2_; have HB := n3_; have BK247 := n4_; have GW247 := n5_; have GE247 := n6_; have NB225_247 := n7_; have NB247_225 := n8_; have NB246_247 := n9_; have NB247_246 := n10_; clear n0_ n1_ n2_ n3_ n4_ n5_ n6_ n7_ n8_ n9_ n10_; clear hb hbox hg; have hnb124 := NB246_225.out; have hnc124 := NB225_246.out; have hnb125 := NB246_247.out; have hnc125 := NB247_246.out; have hcz126_0 := cl_ (v := .int .i64 0) BK246 0; have hcz126_1 := cl_ (v := .int .i64 0) BK246 1; have hfz126_0 := blk_frozen BK246.out 0; have hfz126_1 := blk_frozen BK246.out 1; have hnb127 := NB247_225.out; have hnc127 := NB225_247.out; have hcz128_0 := cl_ (v := .int .i64 0) BK247 0; have hcz128_1 := cl_ (v := .int .i64 0) BK247 1; have hfz128_0 := blk_frozen BK247.out 0; have hfz128_1 := blk_frozen BK247.out 1))
         have n0_ : Aside0 (Kd.R k55 55 ((((w123.setCell ⟨gb246, 0, none⟩ (.int .i64 t242)).setCell ⟨gb246, 1, none⟩ (.int .i64 t243)).setCell ⟨gb247, 0, none⟩ (.int .i64 t244)).setCell ⟨gb247, 1, none⟩ (.int .i64 t245)) w.heap.size (fun k_ => k_ ≠ gb246 ∧ k_ ≠ gb247) u8 x8_2) := ⟨by (with_reducible repeat (first | apply Kd.R_alloc | apply Kd.R_drewN | apply Kd.R_drew)); exact Kd.R_mono (Kd.R_far (p := ⟨gb247, 1, none⟩) (Kd.R_far (p := ⟨gb247, 0, none⟩) (Kd.R_far (p := ⟨gb246, 1, none⟩) (Kd.R_far (p := ⟨gb246, 0, none⟩) (Kd.R_mono (Kd.R_mono HO_8.out (fun k_ hk => (⟨hk, hk.1.2⟩ : _ ∧ k_ ≠ gb246))) (fun k_ hk => (⟨hk, hk.1.2⟩ : _ ∧ k_ ≠ gb247))) (fun _ hk => hk.1.2) (.int .i64 t242)) (fun _ hk => hk.1.2) (.int .i64 t243)) (fun _ hk => hk.2) (.int .i64 t244)) (fun _ hk => hk.2) (.int .i64 t245)) (fun _ hk => ⟨hk.1.1.1.2, hk.1.1.2⟩)⟩; have n1_ : Aside0 (((((w123.setCell ⟨gb246, 0, none⟩ (.int .i64 t242)).setCell ⟨gb246, 1, none⟩ (.int .i64 t243)).setCell ⟨gb247, 0, none⟩ (.int .i64 t244)).setCell ⟨gb247, 1, none⟩ (.int .i64 t245)).heap[gb225]? = some (.cells #[.slice A2_0 l2_0.length c2_0, .slice A2_1 l2_1.length c2_1, .slice A2_2 l2_2.length c2_2] 32 (0, 0))) := ⟨by (with_reducible repeat (first | refine blk_drewN ?_ _ | refine blk_drew ?_ | refine blk_alloc ?_ _)); refine blk_far ?_ NB225_247.out _; (with_reducible repeat (first | refine blk_drewN ?_ _ | refine blk_drew ?_ | refine blk_alloc ?_ _)); refine blk_far ?_ NB225_247.out _; (with_reducible repeat (first | refine blk_drewN ?_ _ | refine blk_drew ?_ | refine blk_alloc ?_ _)); refine blk_far ?_ NB225_246.out _; (with_reducible repeat (first | refine blk_drewN ?_ _ | refine blk_drew ?_ | refine blk_alloc ?_ _)); refine blk_far ?_ NB225_246.out _; (with_reducible repeat (first | refine blk_drewN ?_ _ | refine blk_drew ?_ | refine blk_alloc ?_ _)); exact BK225.out⟩; have n2_ : Aside0 (((((w123.setCell ⟨gb246, 0, none⟩ (.int .i64 t242)).setCell ⟨gb246, 1, none⟩ (.int .i64 t243)).setCell ⟨gb247, 0, none⟩ (.int .i64 t244)).setCell ⟨gb247, 1, none⟩ (.int .i64 t245)).heap[gb246]? = some (.cells #[.int .i64 t242, .int .i64 t243] 55 (0, 0))) := ⟨by (with_reducible repeat (first | refine blk_drewN ?_ _ | refine blk_drew ?_ | refine blk_alloc ?_ _)); refine blk_far ?_ NB246_247.out _; (with_reducible repeat (first | refine blk_drewN ?_ _ | refine blk_drew ?_ | refine blk_alloc ?_ _)); refine blk_far ?_ NB246_247.out _; (with_reducible repeat (first | refine blk_drewN ?_ _ | refine blk_drew ?_ | refine blk_alloc ?_ _)); refine blk_put (cs := #[.int .i64 t242, .int .i64 0]) ?_ 1 _ rfl; (with_reducible repeat (first | refine blk_drewN ?_ _ | refine blk_drew ?_ | refine blk_alloc ?_ _)); refine blk_put (cs := #[.int .i64 0, .int .i64 0]) ?_ 0 _ rfl; (with_reducible repeat (first | refine blk_drewN ?_ _ | refine blk_drew ?_ | refine blk_alloc ?_ _)); exact BK246.out⟩; have n3_ : Aside0 (((((w123.setCell ⟨gb246, 0, none⟩ (.int .i64 t242)).setCell ⟨gb246, 1, none⟩ (.int .i64 t243)).setCell ⟨gb247, 0, none⟩ (.int .i64 t244)).setCell ⟨gb247, 1, none⟩ (.int .i64 t245)).heap[gb247]? = some (.cells #[.int .i64 t244, .int .i64 t245] 55 (0, 0))) := ⟨by (with_reducible repeat (first | refine blk_drewN ?_ _ | refine blk_drew ?_ | refine blk_alloc ?_ _)); refine blk_put (cs := #[.int .i64 t244, .int .i64 0]) ?_ 1 _ rfl; (with_reducible repeat (first | refine blk_drewN ?_ _ | refine blk_drew ?_ | refine blk_alloc ?_ _)); refine blk_put (cs := #[.int .i64 0, .int .i64 0]) ?_ 0 _ rfl; (with_reducible repeat (first | refine blk_drewN ?_ _ | refine blk_drew ?_ | refine blk_alloc ?_ _)); refine blk_far ?_ NB247_246.out _; (with_reducible repeat (first | refine blk_drewN ?_ _ | refine blk_drew ?_ | refine blk_alloc ?_ _)); refine blk_far ?_ NB247_246.out _; (with_reducible repeat (first | refine blk_drewN ?_ _ | refine blk_drew ?_ | refine blk_alloc ?_ _)); exact BK247.out⟩; have n4_ : Aside0 (Below w.heap.size w ((((w123.setCell ⟨gb246, 0, none⟩ (.int .i64 t242)).setCell ⟨gb246, 1, none⟩ (.int .i64 t243)).setCell ⟨gb247, 0, none⟩ (.int .i64 t244)).setCell ⟨gb247, 1, none⟩ (.int .i64 t245))) := ⟨sq_below3 HB.out GE225.out GE246.out GE247.out⟩
         (try clear HO_8)
         (try clear BK225)
         (try clear BK246)
         (try clear BK247)
         (try clear HB)
         generalize ((((w123.setCell ⟨gb246, 0, none⟩ (.int .i64 t242)).setCell ⟨gb246, 1, none⟩ (.int .i64 t243)).setCell ⟨gb247, 0, none⟩ (.int .i64 t244)).setCell ⟨gb247, 1, none⟩ (.int .i64 t245)) = w129 at n0_ n1_ n2_ n3_ n4_ ⊢; have HO_8 := n0_; have BK225 := n1_; have BK246 := n2_; have BK247 := n3_; have HB := n4_; clear n0_ n1_ n2_ n3_ n4_; replace HO_8 := Aside0.mk (Kd.R_drew HO_8.out); replace BK225 := bd_ BK225; replace BK246 := bd_ BK246; replace BK247 := bd_ BK247; replace HB := hd_ HB; have p248 : 0 ≤ (0 : Int) := (by omega); have q248 : 0 < (l2_0.length : Int) := sq_dec; obtain ⟨ad248, A248_0, c248_0, e248, hx248_0, hl248_0, hi248_0⟩ := at_L7 HR2_0.out 0 p248 q248; have hw248_0 := hx248_0
         (try rw [show ((0 : Int)).toNat = 0 from rfl] at hw248_0)
         (try rw [show 0 * 1 = 0 from rfl] at hw248_0)
         (try rw [Addr.add_zero'] at hw248_0)
         cases e248; have qi248 : (0 < l2_0.length) = True := eq_true (by omega)
         (try rw [show ((0 : Int)).toNat = 0 from rfl] at hx248_0)
         (try rw [Addr.add_zero'] at hx248_0)
         replace hx248_0 := (HB.out.cell (World.block_lt_of_cell? w _ hx248_0)).trans hx248_0; have HR248_0 := Aside0.mk hi248_0; have HC248_0 := Aside0.mk hl248_0; clear hi248_0 hl248_0; replace p248 := eq_true p248; replace q248 := eq_true q248; refine start_ (n := 23) (S := fun w' => w'.cell? ⟨gb225, 0, none⟩ = some (.slice (some ad248) l2_0.length c2_0) ∧ w'.cell? ⟨gb225, 1, none⟩ = some (.slice A2_1 l2_1.length c2_1) ∧ w'.cell? ⟨gb225, 2, none⟩ = some (.slice A2_2 l2_2.length c2_2) ∧ w'.cell? ⟨gb246, 0, none⟩ = some (.int .i64 t242) ∧ w'.cell? ⟨gb246, 1, none⟩ = some (.int .i64 t243) ∧ w'.cell? ad248 = some (.slice A248_0 (rd_L7 l2_0 0).length c248_0)) (ds := []) impl_SegOk.b0_ (by kernel_rfl) rfl rfl ⟨cl_ BK225 0, cl_ BK225 1, cl_ BK225 2, cl_ BK246 0, cl_ BK246 1, ((HB.out.cell (World.block_lt_of_cell? w _ hw248_0)).trans hw248_0)⟩ (fun hHeld => ?_); refine with_tabW impl_SegOk.tab21 impl_SegOk.bits21 (fun HT_ HW_ => ?_); generalize w129.drew = w130 at HO_8 BK225 BK246 BK247 HB HR248_0 hx248_0 hHeld ⊢; refine pure_y 0 (some 97) impl_SegOk.b1_ (any_of HT_.out (by kernel_rfl)) (h := ?_)
         refine take_y 1 (some 98) impl_SegOk.b2_ rfl (take_ofW HT_.out HW_.out (by kernel_rfl)) hHeld (Or.inl ⟨by rfl, (by rintro w' ⟨s0, s1, s2, s3, s4, s5⟩; go_simp; with_reducible rfl)⟩) (h := ?_)
         refine pure_y 2 (some 99) impl_SegOk.b3_ (any_of HT_.out (by kernel_rfl)) (h := ?_)
         refine take_y 3 (some 100) impl_SegOk.b4_ rfl (take_ofW HT_.out HW_.out (by kernel_rfl)) hHeld (Or.inl ⟨by rfl, (by rintro w' ⟨s0, s1, s2, s3, s4, s5⟩; go_simp; with_reducible rfl)⟩) (h := ?_)
         refine take_y 4 (some 101) impl_SegOk.b5_ rfl (take_ofW HT_.out HW_.out (by kernel_rfl)) hHeld (Or.inl ⟨by rfl, (by rintro w' ⟨s0, s1, s2, s3, s4, s5⟩; go_simp; with_reducible rfl)⟩) (h := ?_)
         refine one_ (i := 5) (N := some 102) impl_SegOk.b6_ rfl rfl (one_of HT_.out (by kernel_rfl)) (by decide) (fun K hK => ?_); refine gs_ Tryd.func35 #[.slice A248_0 (rd_L7 l2_0 0).length c248_0, .agg #[.int .i64 t242, .int .i64 t243]] (h := ?_); with_reducible refine (impl_Sym_35.calls k2 _ _ (rd_L7 l2_0 0) t242 t243 false _ ?side1 ?side2 A88.out).mono ?_
         (case side1 => exact sq_c (Kd.C_below HR248_0.out HB.out))
         (case side2 => exact HC248_0.out)
         rintro e w131 ⟨rfl, hb⟩; refine ⟨_, rfl, ?_⟩; replace HO_8 := Aside0.mk (Kd.R_below (sq_row HO_8.out) hb); replace BK225 := bb_ BK225 hb; replace BK246 := bb_ BK246 hb; replace BK247 := bb_ BK247 hb; replace HB := hb3_ HB hb GE225 GE246 GE247
         (try clear hb)
         (try clear hb2)
         (try clear hk)
         (try clear hi)
         refine hK.out _ _ ⟨cl_ BK225 0, cl_ BK225 1, cl_ BK225 2, cl_ BK246 0, cl_ BK246 1, ((HB.out.cell (World.block_lt_of_cell? w _ hw248_0)).trans hw248_0)⟩ (fun hHeld => ?_); clear hK K; refine norm_y 102 (h := ?_)
         refine pure_y 6 (some 103) impl_SegOk.b7_ (any_of HT_.out (by kernel_rfl)) (h := ?_)
         refine pure_n 7 (some 104) impl_SegOk.b8_ (any_of HT_.out (by kernel_rfl)) (h := ?_)
         refine pure_n 8 (some 105) impl_SegOk.b9_ (any_of HT_.out (by kernel_rfl)) (h := ?_)
         refine pure_n 9 (some 106) impl_SegOk.b11_ (any_of HT_.out (by kernel_rfl)) (h := ?_)
         refine pure_n 10 (some 107) impl_SegOk.b13_ (any_of HT_.out (by kernel_rfl)) (h := ?_)
         refine pure_n 11 (some 108) impl_SegOk.b14_ (any_of HT_.out (by kernel_rfl)) (h := ?_)
         refine pure_n 12 (some 109) impl_SegOk.b15_ (any_of HT_.out (by kernel_rfl)) (h := ?_)
         refine pure_n 13 (some 110) impl_SegOk.b16_ (any_of HT_.out (by kernel_rfl)) (h := ?_)
         refine pure_n 14 (some 111) impl_SegOk.b17_ (any_of HT_.out (by kernel_rfl)) (h := ?_)
         refine pure_y 15 (some 112) impl_SegOk.b18_ (any_of HT_.out (by kernel_rfl)) (h := ?_)
         refine pure_y 16 (some 113) impl_SegOk.b19_ (any_of HT_.out (by kernel_rfl)) (h := ?_)
         refine pure_n 17 (some 114) impl_SegOk.b20_ (any_of HT_.out (by kernel_rfl)) (h := ?_)
         refine pure_n 18 (some 115) impl_SegOk.b21_ (any_of HT_.out (by kernel_rfl)) (h := ?_)
         refine pure_n 19 (some 116) impl_SegOk.b22_ (any_of HT_.out (by kernel_rfl)) (h := ?_)
         refine pure_n 20 (some 117) impl_SegOk.b23_ (any_of HT_.out (by kernel_rfl)) (h := ?_)
         refine pure_y 21 (some 118) impl_SegOk.b24_ (any_of HT_.out (by kernel_rfl)) (h := ?_)
         refine pure_y 22 (some 6) impl_SegOk.b25_ (any_of HT_.out (by kernel_rfl)) (h := ?_)
         refine done_ (done_of HT_.out (by kernel_rfl)) ?_
         try go_wp2
         go_ret
         exact ⟨by first | rfl | (simp [errW_none, errW_some] <;> rfl) | (simp [*, errW_none, errW_some] <;> rfl), sq_below3 HB.out GE225.out GE246.out GE247.out⟩
       ·
        rw [if_neg c87] at H; exact absurd H (by simp)

end Go.Proofs.YtfeloencepgdlaaDoor.Q
