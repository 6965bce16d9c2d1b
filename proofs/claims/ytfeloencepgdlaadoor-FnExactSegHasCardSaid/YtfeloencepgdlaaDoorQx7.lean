/- Functions of the translation as Lean functions, each with a proof that a call answers so; out of the seat, by this claim's own program prt.py. -/
import Derived.Test.YtfeloencepgdlaaDoorWTab
import Derived.Test.YtfeloencepgdlaaDoorWRepsOne
import Derived.Test.YtfeloencepgdlaaDoorWGuard
import Derived.Test.YtfeloencepgdlaaDoorQx0
import Derived.Test.YtfeloencepgdlaaDoorQx3
import Derived.Test.YtfeloencepgdlaaDoorQx4
import Derived.Test.YtfeloencepgdlaaDoorQx5
import Derived.Test.YtfeloencepgdlaaDoorQx6
import Derived.Test.YtfeloencepgdlaaDoorQStep
namespace Go.Proofs.YtfeloencepgdlaaDoor.Q
open Go.RowKit Go.Proofs.YtfeloencepgdlaaDoorW.PrintWords Go.Proofs.YtfeloencepgdlaaDoorW.PrintLast Go.Proofs.YtfeloencepgdlaaDoorW.PrintMore
attribute [local go_sem] max2_int min2_int max_two min_two max_three min_three max_four min_four   -- for this text's walks alone
set_option linter.unusedVariables false
set_option linter.unusedSimpArgs false

/-! ### spec_SegOk: function 7 -/
abbrev spec_SegOk.b0_ : Array Bool := #[false, false, false, false, false, false, false, false, false, false, false, false, false, false, false, false, false, false, false, false, false, false, false, false, false, false, false, false, false, false, false, false, false, false]
abbrev spec_SegOk.b1_ : Array Bool := #[true, false, false, false, false, false, false, false, false, false, false, false, false, false, false, false, false, false, false, false, false, false, false, false, false, false, false, false, false, false, false, false, false, false]
abbrev spec_SegOk.b2_ : Array Bool := #[true, true, false, false, false, false, false, false, false, false, false, false, false, false, false, false, false, false, false, false, false, false, false, false, false, false, false, false, false, false, false, false, false, false]
abbrev spec_SegOk.b3_ : Array Bool := #[true, true, true, false, false, false, false, false, false, false, false, false, false, false, false, false, false, false, false, false, false, false, false, false, false, false, false, false, false, false, false, false, false, false]
abbrev spec_SegOk.b4_ : Array Bool := #[true, true, true, true, false, false, false, false, false, false, false, false, false, false, false, false, false, false, false, false, false, false, false, false, false, false, false, false, false, false, false, false, false, false]
abbrev spec_SegOk.b5_ : Array Bool := #[true, true, true, true, true, false, false, false, false, false, false, false, false, false, false, false, false, false, false, false, false, false, false, false, false, false, false, false, false, false, false, false, false, false]
abbrev spec_SegOk.b6_ : Array Bool := #[true, true, true, true, true, true, false, false, false, false, false, false, false, false, false, false, false, false, false, false, false, false, false, false, false, false, false, false, false, false, false, false, false, false]
abbrev spec_SegOk.b7_ : Array Bool := #[true, true, true, true, true, true, true, false, false, false, false, false, false, false, false, false, false, false, false, false, false, false, false, false, false, false, false, false, false, false, false, false, false, false]
abbrev spec_SegOk.b8_ : Array Bool := #[true, true, true, true, true, true, true, true, false, false, false, false, false, false, false, false, false, false, false, false, false, false, false, false, false, false, false, false, false, false, false, false, false, false]
abbrev spec_SegOk.b9_ : Array Bool := #[true, true, true, true, true, true, true, true, true, false, false, false, false, false, false, false, false, false, false, false, false, false, false, false, false, false, false, false, false, false, false, false, false, false]
abbrev spec_SegOk.b10_ : Array Bool := #[true, true, true, true, true, true, true, true, true, true, false, false, false, false, false, false, false, false, false, false, false, false, false, false, false, false, false, false, false, false, false, false, false, false]
abbrev spec_SegOk.b11_ : Array Bool := #[true, true, true, true, true, true, true, true, true, true, true, false, false, false, false, false, false, false, false, false, false, false, false, false, false, false, false, false, false, false, false, false, false, false]
abbrev spec_SegOk.b12_ : Array Bool := #[true, true, true, true, true, true, true, true, true, true, true, true, false, false, false, false, false, false, false, false, false, false, false, false, false, false, false, false, false, false, false, false, false, false]
abbrev spec_SegOk.b13_ : Array Bool := #[true, true, true, true, true, true, true, true, true, true, true, true, true, false, false, false, false, false, false, false, false, false, false, false, false, false, false, false, false, false, false, false, false, false]
abbrev spec_SegOk.b14_ : Array Bool := #[true, true, true, true, true, true, true, true, true, true, true, true, true, true, false, false, false, false, false, false, false, false, false, false, false, false, false, false, false, false, false, false, false, false]
abbrev spec_SegOk.b15_ : Array Bool := #[true, true, true, true, true, true, true, true, true, true, true, true, true, true, true, false, false, false, false, false, false, false, false, false, false, false, false, false, false, false, false, false, false, false]
abbrev spec_SegOk.b16_ : Array Bool := #[true, true, true, true, true, true, true, true, true, true, true, true, true, true, true, false, true, false, false, false, false, false, false, false, false, false, false, false, false, false, false, false, false, false]
abbrev spec_SegOk.b17_ : Array Bool := #[true, true, true, true, true, true, true, true, true, true, true, true, true, true, true, true, false, false, false, false, false, false, false, false, false, false, false, false, false, false, false, false, false, false]
abbrev spec_SegOk.b18_ : Array Bool := #[true, true, true, true, true, true, true, true, true, true, true, true, true, true, true, false, true, true, false, false, false, false, false, false, false, false, false, false, false, false, false, false, false, false]
abbrev spec_SegOk.b19_ : Array Bool := #[true, true, true, true, true, true, true, true, true, true, true, true, true, true, true, true, true, false, false, false, false, false, false, false, false, false, false, false, false, false, false, false, false, false]
abbrev spec_SegOk.b20_ : Array Bool := #[true, true, true, true, true, true, true, true, true, true, true, true, true, true, true, false, true, true, true, false, false, false, false, false, false, false, false, false, false, false, false, false, false, false]
abbrev spec_SegOk.b21_ : Array Bool := #[true, true, true, true, true, true, true, true, true, true, true, true, true, true, true, true, true, true, false, false, false, false, false, false, false, false, false, false, false, false, false, false, false, false]
abbrev spec_SegOk.b22_ : Array Bool := #[true, true, true, true, true, true, true, true, true, true, true, true, true, true, true, true, true, true, true, false, false, false, false, false, false, false, false, false, false, false, false, false, false, false]
abbrev spec_SegOk.b23_ : Array Bool := #[true, true, true, true, true, true, true, true, true, true, true, true, true, true, true, true, true, true, true, true, false, false, false, false, false, false, false, false, false, false, false, false, false, false]
abbrev spec_SegOk.b24_ : Array Bool := #[true, true, true, true, true, true, true, true, true, true, true, true, true, true, true, true, true, true, true, true, true, false, false, false, false, false, false, false, false, false, false, false, false, false]
abbrev spec_SegOk.b25_ : Array Bool := #[true, true, true, true, true, true, true, true, true, true, true, true, true, true, true, true, true, true, true, true, true, true, false, false, false, false, false, false, false, false, false, false, false, false]
abbrev spec_SegOk.b26_ : Array Bool := #[true, true, true, true, true, true, true, true, true, true, true, true, true, true, true, true, true, true, true, true, true, true, true, false, false, false, false, false, false, false, false, false, false, false]
abbrev spec_SegOk.b27_ : Array Bool := #[true, true, true, true, true, true, true, true, true, true, true, true, true, true, true, true, true, true, true, true, true, true, true, true, false, false, false, false, false, false, false, false, false, false]
abbrev spec_SegOk.b28_ : Array Bool := #[true, true, true, true, true, true, true, true, true, true, true, true, true, true, true, true, true, true, true, true, true, true, true, true, true, false, false, false, false, false, false, false, false, false]
abbrev spec_SegOk.b29_ : Array Bool := #[true, true, true, true, true, true, true, true, true, true, true, true, true, true, true, true, true, true, true, true, true, true, true, true, true, false, true, false, false, false, false, false, false, false]
abbrev spec_SegOk.b30_ : Array Bool := #[true, true, true, true, true, true, true, true, true, true, true, true, true, true, true, true, true, true, true, true, true, true, true, true, true, true, false, false, false, false, false, false, false, false]
abbrev spec_SegOk.b31_ : Array Bool := #[true, true, true, true, true, true, true, true, true, true, true, true, true, true, true, true, true, true, true, true, true, true, true, true, true, false, true, true, false, false, false, false, false, false]
abbrev spec_SegOk.b32_ : Array Bool := #[true, true, true, true, true, true, true, true, true, true, true, true, true, true, true, true, true, true, true, true, true, true, true, true, true, true, true, false, false, false, false, false, false, false]
abbrev spec_SegOk.b33_ : Array Bool := #[true, true, true, true, true, true, true, true, true, true, true, true, true, true, true, true, true, true, true, true, true, true, true, true, true, false, true, true, true, false, false, false, false, false]
abbrev spec_SegOk.b34_ : Array Bool := #[true, true, true, true, true, true, true, true, true, true, true, true, true, true, true, true, true, true, true, true, true, true, true, true, true, true, true, true, false, false, false, false, false, false]
abbrev spec_SegOk.b35_ : Array Bool := #[true, true, true, true, true, true, true, true, true, true, true, true, true, true, true, true, true, true, true, true, true, true, true, true, true, false, true, true, true, false, false, true, false, false]
abbrev spec_SegOk.b36_ : Array Bool := #[true, true, true, true, true, true, true, true, true, true, true, true, true, true, true, true, true, true, true, true, true, true, true, true, true, true, true, true, true, false, false, false, false, false]
abbrev spec_SegOk.b37_ : Array Bool := #[true, true, true, true, true, true, true, true, true, true, true, true, true, true, true, true, true, true, true, true, true, true, true, true, true, true, true, true, true, false, false, true, false, false]
abbrev spec_SegOk.b38_ : Array Bool := #[true, true, true, true, true, true, true, true, true, true, true, true, true, true, true, true, true, true, true, true, true, true, true, true, true, true, true, true, true, true, false, false, false, false]
abbrev spec_SegOk.b39_ : Array Bool := #[true, true, true, true, true, true, true, true, true, true, true, true, true, true, true, true, true, true, true, true, true, true, true, true, true, true, true, true, true, true, false, true, false, false]
abbrev spec_SegOk.b40_ : Array Bool := #[true, true, true, true, true, true, true, true, true, true, true, true, true, true, true, true, true, true, true, true, true, true, true, true, true, true, true, true, true, true, true, false, false, false]
abbrev spec_SegOk.b41_ : Array Bool := #[true, true, true, true, true, true, true, true, true, true, true, true, true, true, true, true, true, true, true, true, true, true, true, true, true, true, true, true, true, true, true, true, false, false]
abbrev spec_SegOk.b42_ : Array Bool := #[true, true, true, true, true, true, true, true, true, true, true, true, true, true, true, true, true, true, true, true, true, true, true, true, true, true, true, true, true, true, true, true, true, false]
abbrev spec_SegOk.b43_ : Array Bool := #[true, true, true, true, true, true, true, true, true, true, true, true, true, true, true, true, true, true, true, true, true, true, true, true, true, true, true, true, true, true, true, true, true, true]
mutual
def spec_SegOk.j0 : Nat → Int → Int → Int → Bool → List (List (S55)) → List (S62) → List Bool → Option (Bool)
 | 0, _, _, _, _, _, _, _ => none
 | k + 1, x0, x1, x7, x43, x133000, x133001, x133002 => if x43 = true then (some false) else (spec_SegOk.l0 k x0 x1 x7 0 0 x133000 x133001 x133002)
def spec_SegOk.l0 : Nat → Int → Int → Int → Int → Int → List (List (S55)) → List (S62) → List Bool → Option (Bool)
 | 0, _, _, _, _, _, _, _, _ => none
 | k + 1, x0, x1, x7, x8, x9, x133000, x133001, x133002 => if x9 < x7 then (if 0 ≤ x9 then (if x9 < (x133000.length : Int) then (if ((rd_L7 x133000 x9).length : Int) = 0 then (spec_SegOk.j2 k x0 x1 x7 (wrap64 (x8 + ((rd_L7 x133000 x9).length : Int))) x9 (rd_L7 x133000 x9) true x133000 x133001 x133002) else (spec_SegOk.j2 k x0 x1 x7 (wrap64 (x8 + ((rd_L7 x133000 x9).length : Int))) x9 (rd_L7 x133000 x9) (decide ((wrap64 (x8 + ((rd_L7 x133000 x9).length : Int))) > 40)) x133000 x133001 x133002)) else (none)) else (none)) else (spec_SegOk.l2 k x1 x7 0 x133000 x133001 x133002)
def spec_SegOk.j2 : Nat → Int → Int → Int → Int → Int → List (S55) → Bool → List (List (S55)) → List (S62) → List Bool → Option (Bool)
 | 0, _, _, _, _, _, _, _, _, _, _ => none
 | k + 1, x0, x1, x7, x8, x9, x10, x64, x133000, x133001, x133002 => if x64 = true then (some false) else (spec_SegOk.l1 k x0 x1 x7 x8 x9 x10 0 x133000 x133001 x133002)
def spec_SegOk.l1 : Nat → Int → Int → Int → Int → Int → List (S55) → Int → List (List (S55)) → List (S62) → List Bool → Option (Bool)
 | 0, _, _, _, _, _, _, _, _, _, _ => none
 | k + 1, x0, x1, x7, x8, x9, x10, x11, x133000, x133001, x133002 => if x11 < (x10.length : Int) then (if 0 ≤ x11 then ((spec_SymOk.f x0 ((rd_T55 x10 x11).f0) ((rd_T55 x10 x11).f1)).bind fun t136 => (if t136 = true then (if x11 > 0 then (if 0 ≤ (wrap64 (x11 - 1)) then (if (wrap64 (x11 - 1)) < (x10.length : Int) then ((spec_SymLess.f ((rd_T55 x10 (wrap64 (x11 - 1))).f0) ((rd_T55 x10 (wrap64 (x11 - 1))).f1) ((rd_T55 x10 x11).f0) ((rd_T55 x10 x11).f1)).bind fun t139 => (if t139 = true then ((spec_l10In.f k x133000 x133001 x133002 ((rd_T55 x10 x11).f0) ((rd_T55 x10 x11).f1)).bind fun t141 => (if t141 = x9 then (spec_SegOk.l1 k x0 x1 x7 x8 x9 x10 (wrap64 (x11 + 1)) x133000 x133001 x133002) else (some false))) else (some false))) else (none)) else (none)) else ((spec_l10In.f k x133000 x133001 x133002 ((rd_T55 x10 x11).f0) ((rd_T55 x10 x11).f1)).bind fun t143 => (if t143 = x9 then (spec_SegOk.l1 k x0 x1 x7 x8 x9 x10 (wrap64 (x11 + 1)) x133000 x133001 x133002) else (some false)))) else (some false))) else (none)) else (spec_SegOk.l0 k x0 x1 x7 x8 (wrap64 (x9 + 1)) x133000 x133001 x133002)
def spec_SegOk.l2 : Nat → Int → Int → Int → List (List (S55)) → List (S62) → List Bool → Option (Bool)
 | 0, _, _, _, _, _, _ => none
 | k + 1, x1, x7, x12, x133000, x133001, x133002 => if x12 < (wrap64 (x7 - 1)) then (if 0 ≤ x12 then (if x12 < (x133001.length : Int) then ((spec_ValOk.f ((rd_T62 x133001 x12).f0.f0) ((rd_T62 x133001 x12).f0.f1) ((rd_T62 x133001 x12).f1)).bind fun t145 => (if t145 = true then (spec_SegOk.l2 k x1 x7 (wrap64 (x12 + 1)) x133000 x133001 x133002) else (some false))) else (none)) else (none)) else ((spec_l10In.f k x133000 x133001 x133002 0 0).bind fun t146 => (if t146 = 0 then ((spec_l10In.f k x133000 x133001 x133002 x1 0).bind fun t147 => (some (t147 == (wrap64 (x7 - 1))))) else (some false)))
end
def spec_SegOk.f (k : Nat) (a0 : Int) (a1 : Int) (l2_0 : List (List (S55))) (l2_1 : List (S62)) (l2_2 : List Bool) : Option (Bool) := (spec_l10Size.f a0 a1).bind fun t133 => (if t133 = true then (if (l2_0.length : Int) < 1 then (spec_SegOk.j0 k a0 a1 (l2_0.length : Int) true l2_0 l2_1 l2_2) else (if (l2_0.length : Int) > 16 then (spec_SegOk.j0 k a0 a1 (l2_0.length : Int) true l2_0 l2_1 l2_2) else (if (l2_1.length : Int) = (wrap64 ((l2_0.length : Int) - 1)) then (spec_SegOk.j0 k a0 a1 (l2_0.length : Int) ((l2_2.length : Int) != (wrap64 ((l2_0.length : Int) - 1))) l2_0 l2_1 l2_2) else (spec_SegOk.j0 k a0 a1 (l2_0.length : Int) true l2_0 l2_1 l2_2)))) else (spec_SegOk.j0 k a0 a1 (l2_0.length : Int) true l2_0 l2_1 l2_2))
theorem spec_SegOk.mono_l : ∀ k, (∀ y0 y1 y2 y3 y4 y5 y6, LeO (spec_SegOk.j0 k y0 y1 y2 y3 y4 y5 y6) (spec_SegOk.j0 (k + 1) y0 y1 y2 y3 y4 y5 y6)) ∧ (∀ y0 y1 y2 y3 y4 y5 y6 y7, LeO (spec_SegOk.l0 k y0 y1 y2 y3 y4 y5 y6 y7) (spec_SegOk.l0 (k + 1) y0 y1 y2 y3 y4 y5 y6 y7)) ∧ (∀ y0 y1 y2 y3 y4 y5 y6 y7 y8 y9, LeO (spec_SegOk.j2 k y0 y1 y2 y3 y4 y5 y6 y7 y8 y9) (spec_SegOk.j2 (k + 1) y0 y1 y2 y3 y4 y5 y6 y7 y8 y9)) ∧ (∀ y0 y1 y2 y3 y4 y5 y6 y7 y8 y9, LeO (spec_SegOk.l1 k y0 y1 y2 y3 y4 y5 y6 y7 y8 y9) (spec_SegOk.l1 (k + 1) y0 y1 y2 y3 y4 y5 y6 y7 y8 y9)) ∧ (∀ y0 y1 y2 y3 y4 y5, LeO (spec_SegOk.l2 k y0 y1 y2 y3 y4 y5) (spec_SegOk.l2 (k + 1) y0 y1 y2 y3 y4 y5))
 | 0 => ⟨fun _ _ _ _ _ _ _ r h => by simp [spec_SegOk.j0] at h, fun _ _ _ _ _ _ _ _ r h => by simp [spec_SegOk.l0] at h, fun _ _ _ _ _ _ _ _ _ _ r h => by simp [spec_SegOk.j2] at h, fun _ _ _ _ _ _ _ _ _ _ r h => by simp [spec_SegOk.l1] at h, fun _ _ _ _ _ _ r h => by simp [spec_SegOk.l2] at h⟩
 | k + 1 => by
  obtain ⟨ih0, ih1, ih2, ih3, ih4⟩ := spec_SegOk.mono_l k; refine ⟨?_, ?_, ?_, ?_, ?_⟩
  ·
   intro y0 y1 y2 y3 y4 y5 y6; unfold spec_SegOk.j0
   repeat' first
   | (with_reducible exact ih0 _ _ _ _ _ _ _)
   | (with_reducible exact ih1 _ _ _ _ _ _ _ _)
   | (with_reducible exact ih2 _ _ _ _ _ _ _ _ _ _)
   | (with_reducible exact ih3 _ _ _ _ _ _ _ _ _ _)
   | (with_reducible exact ih4 _ _ _ _ _ _)
   | (with_reducible exact spec_l10In.mono _ _ _ _ _ _)
   | (with_reducible exact LeO.refl _)
   | (with_reducible exact LeO.none _)
   | (with_reducible refine LeO.ite ?_ ?_)
   | (with_reducible refine LeO.bind ?_ (fun _ => ?_))
   | exact ih0 _ _ _ _ _ _ _
   | exact ih1 _ _ _ _ _ _ _ _
   | exact ih2 _ _ _ _ _ _ _ _ _ _
   | exact ih3 _ _ _ _ _ _ _ _ _ _
   | exact ih4 _ _ _ _ _ _
   | exact spec_l10In.mono _ _ _ _ _ _
   | exact LeO.none _
   | refine LeO.ite ?_ ?_
   | refine LeO.bind ?_ (fun _ => ?_)
  ·
   intro y0 y1 y2 y3 y4 y5 y6 y7; unfold spec_SegOk.l0
   repeat' first
   | (with_reducible exact ih0 _ _ _ _ _ _ _)
   | (with_reducible exact ih1 _ _ _ _ _ _ _ _)
   | (with_reducible exact ih2 _ _ _ _ _ _ _ _ _ _)
   | (with_reducible exact ih3 _ _ _ _ _ _ _ _ _ _)
   | (with_reducible exact ih4 _ _ _ _ _ _)
   | (with_reducible exact spec_l10In.mono _ _ _ _ _ _)
   | (with_reducible exact LeO.refl _)
   | (with_reducible exact LeO.none _)
   | (with_reducible refine LeO.ite ?_ ?_)
   | (with_reducible refine LeO.bind ?_ (fun _ => ?_))
   | exact ih0 _ _ _ _ _ _ _
   | exact ih1 _ _ _ _ _ _ _ _
   | exact ih2 _ _ _ _ _ _ _ _ _ _
   | exact ih3 _ _ _ _ _ _ _ _ _ _
   | exact ih4 _ _ _ _ _ _
   | exact spec_l10In.mono _ _ _ _ _ _
   | exact LeO.none _
   | refine LeO.ite ?_ ?_
   | refine LeO.bind ?_ (fun _ => ?_)
  ·
   intro y0 y1 y2 y3 y4 y5 y6 y7 y8 y9; unfold spec_SegOk.j2
   repeat' first
   | (with_reducible exact ih0 _ _ _ _ _ _ _)
   | (with_reducible exact ih1 _ _ _ _ _ _ _ _)
   | (with_reducible exact ih2 _ _ _ _ _ _ _ _ _ _)
   | (with_reducible exact ih3 _ _ _ _ _ _ _ _ _ _)
   | (with_reducible exact ih4 _ _ _ _ _ _)
   | (with_reducible exact spec_l10In.mono _ _ _ _ _ _)
   | (with_reducible exact LeO.refl _)
   | (with_reducible exact LeO.none _)
   | (with_reducible refine LeO.ite ?_ ?_)
   | (with_reducible refine LeO.bind ?_ (fun _ => ?_))
   | exact ih0 _ _ _ _ _ _ _
   | exact ih1 _ _ _ _ _ _ _ _
   | exact ih2 _ _ _ _ _ _ _ _ _ _
   | exact ih3 _ _ _ _ _ _ _ _ _ _
   | exact ih4 _ _ _ _ _ _
   | exact spec_l10In.mono _ _ _ _ _ _
   | exact LeO.none _
   | refine LeO.ite ?_ ?_
   | refine LeO.bind ?_ (fun _ => ?_)
  ·
   intro y0 y1 y2 y3 y4 y5 y6 y7 y8 y9; unfold spec_SegOk.l1
   repeat' first
   | (with_reducible exact ih0 _ _ _ _ _ _ _)
   | (with_reducible exact ih1 _ _ _ _ _ _ _ _)
   | (with_reducible exact ih2 _ _ _ _ _ _ _ _ _ _)
   | (with_reducible exact ih3 _ _ _ _ _ _ _ _ _ _)
   | (with_reducible exact ih4 _ _ _ _ _ _)
   | (with_reducible exact spec_l10In.mono _ _ _ _ _ _)
   | (with_reducible exact LeO.refl _)
   | (with_reducible exact LeO.none _)
   | (with_reducible refine LeO.ite ?_ ?_)
   | (with_reducible refine LeO.bind ?_ (fun _ => ?_))
   | exact ih0 _ _ _ _ _ _ _
   | exact ih1 _ _ _ _ _ _ _ _
   | exact ih2 _ _ _ _ _ _ _ _ _ _
   | exact ih3 _ _ _ _ _ _ _ _ _ _
   | exact ih4 _ _ _ _ _ _
   | exact spec_l10In.mono _ _ _ _ _ _
   | exact LeO.none _
   | refine LeO.ite ?_ ?_
   | refine LeO.bind ?_ (fun _ => ?_)
  ·
   intro y0 y1 y2 y3 y4 y5; unfold spec_SegOk.l2
   repeat' first
   | (with_reducible exact ih0 _ _ _ _ _ _ _)
   | (with_reducible exact ih1 _ _ _ _ _ _ _ _)
   | (with_reducible exact ih2 _ _ _ _ _ _ _ _ _ _)
   | (with_reducible exact ih3 _ _ _ _ _ _ _ _ _ _)
   | (with_reducible exact ih4 _ _ _ _ _ _)
   | (with_reducible exact spec_l10In.mono _ _ _ _ _ _)
   | (with_reducible exact LeO.refl _)
   | (with_reducible exact LeO.none _)
   | (with_reducible refine LeO.ite ?_ ?_)
   | (with_reducible refine LeO.bind ?_ (fun _ => ?_))
   | exact ih0 _ _ _ _ _ _ _
   | exact ih1 _ _ _ _ _ _ _ _
   | exact ih2 _ _ _ _ _ _ _ _ _ _
   | exact ih3 _ _ _ _ _ _ _ _ _ _
   | exact ih4 _ _ _ _ _ _
   | exact spec_l10In.mono _ _ _ _ _ _
   | exact LeO.none _
   | refine LeO.ite ?_ ?_
   | refine LeO.bind ?_ (fun _ => ?_)
theorem spec_SegOk.mono : ∀ a0 a1 a2 a3 a4 k, LeO (spec_SegOk.f k a0 a1 a2 a3 a4) (spec_SegOk.f (k + 1) a0 a1 a2 a3 a4) := by
 intro a0 a1 a2 a3 a4 k; obtain ⟨ih0, ih1, ih2, ih3, ih4⟩ := spec_SegOk.mono_l k; unfold spec_SegOk.f
 repeat' first
   | (with_reducible exact ih0 _ _ _ _ _ _ _)
   | (with_reducible exact ih1 _ _ _ _ _ _ _ _)
   | (with_reducible exact ih2 _ _ _ _ _ _ _ _ _ _)
   | (with_reducible exact ih3 _ _ _ _ _ _ _ _ _ _)
   | (with_reducible exact ih4 _ _ _ _ _ _)
   | (with_reducible exact spec_l10In.mono _ _ _ _ _ _)
   | (with_reducible exact LeO.refl _)
   | (with_reducible exact LeO.none _)
   | (with_reducible refine LeO.ite ?_ ?_)
   | (with_reducible refine LeO.bind ?_ (fun _ => ?_))
   | exact ih0 _ _ _ _ _ _ _
   | exact ih1 _ _ _ _ _ _ _ _
   | exact ih2 _ _ _ _ _ _ _ _ _ _
   | exact ih3 _ _ _ _ _ _ _ _ _ _
   | exact ih4 _ _ _ _ _ _
   | exact spec_l10In.mono _ _ _ _ _ _
   | exact LeO.none _
   | refine LeO.ite ?_ ?_
   | refine LeO.bind ?_ (fun _ => ?_)
def spec_SegOk.T15 : Bool × List (List Nat × List Nat) := (true, [([], []), ([], []), ([], []), ([1, 2], [1, 2]), ([3], [3]), ([0, 4], [0, 4]), ([5], [5]), ([6, 5], [6]), ([7], [7]), ([8, 7], [7, 8]), ([9, 7, 7], [7, 9]), ([10], [10]), ([10], [10]), ([12, 10], [10, 12]), ([11, 13, 10], [10, 11, 13]), ([14, 10], [10, 14]), ([10], [10]), ([10], [10]), ([16, 17, 10], [10, 16, 17]), ([18, 10], [10, 18]), ([15, 19, 10, 10], [10, 15, 19]), ([20, 10], [10, 20]), ([10, 21, 7], [7, 10, 21]), ([7, 22], [7, 22]), ([23, 20], [23]), ([24], [24]), ([24], [24]), ([24], [24]), ([26, 27, 24], [24, 26, 27]), ([28, 24], [24, 28]), ([25, 29, 24, 24], [24, 25, 29]), ([24], [24]), ([30, 31, 24], [24, 30, 31]), ([24, 32], [24, 32])])
def spec_SegOk.B15 : List Nat := [0, 0, 0, 6, 14, 31, 63, 127, 255, 511, 1023, 2047, 2047, 6143, 16383, 32767, 2047, 2047, 198655, 460799, 1048575, 2097151, 4194303, 8388607, 16777215, 33554431, 33554431, 33554431, 234881023, 503316479, 1073741823, 33554431, 4294967295, 8589934591]
theorem spec_SegOk.tab15 : rtab .any (opsOf Tryd.f7 15) = spec_SegOk.T15 := by kernel_rfl
theorem spec_SegOk.bits15 : waitsOk spec_SegOk.T15.2 spec_SegOk.B15 = true := by kernel_rfl
set_option maxHeartbeats 8000000 in
set_option maxRecDepth 100000 in
theorem spec_SegOk.calls (k : Nat) (a0 : Int) (a1 : Int) (A2_0 : Option Addr) (c2_0 : Nat) (l2_0 : List (List (S55))) (A2_1 : Option Addr) (c2_1 : Nat) (l2_1 : List (S62)) (A2_2 : Option Addr) (c2_2 : Nat) (l2_2 : List Bool) (r : Bool) (w : World) (hr2_0 : Kd.C (Kd.slice 55 k55) w A2_0 l2_0.length l2_0) (hc2_0 : l2_0.length ≤ c2_0) (hr2_1 : Kd.C k62 w A2_1 l2_1.length l2_1) (hc2_1 : l2_1.length ≤ c2_1) (hr2_2 : Kd.C Kd.bool w A2_2 l2_2.length l2_2) (hc2_2 : l2_2.length ≤ c2_2) (h : spec_SegOk.f k a0 a1 l2_0 l2_1 l2_2 = some r) :
  Calls Tryd.prog 7 #[.int .i64 a0, .int .i64 a1, .agg #[.slice A2_0 l2_0.length c2_0, .slice A2_1 l2_1.length c2_1, .slice A2_2 l2_2.length c2_2]] w fun e w' => e = .returned (.bool r) ∧ Below w.heap.size w w' := by
 have hu32 := Tryd.underlying32; have hu55 := Tryd.underlying55; have hu62 := Tryd.underlying62; have HR2_0 := Aside0.mk hr2_0; have HC2_0 := Aside0.mk hc2_0; clear hr2_0 hc2_0; have HR2_1 := Aside0.mk hr2_1; have HC2_1 := Aside0.mk hc2_1; clear hr2_1 hc2_1; have HR2_2 := Aside0.mk hr2_2; have HC2_2 := Aside0.mk hc2_2; clear hr2_2 hc2_2; have HB := Aside0.mk (Below.refl w.heap.size w); have H : ((spec_l10Size.f a0 a1).bind fun t133 => (if t133 = true then (if (l2_0.length : Int) < 1 then (spec_SegOk.j0 k a0 a1 (l2_0.length : Int) true l2_0 l2_1 l2_2) else (if (l2_0.length : Int) > 16 then (spec_SegOk.j0 k a0 a1 (l2_0.length : Int) true l2_0 l2_1 l2_2) else (if (l2_1.length : Int) = (wrap64 ((l2_0.length : Int) - 1)) then (spec_SegOk.j0 k a0 a1 (l2_0.length : Int) ((l2_2.length : Int) != (wrap64 ((l2_0.length : Int) - 1))) l2_0 l2_1 l2_2) else (spec_SegOk.j0 k a0 a1 (l2_0.length : Int) true l2_0 l2_1 l2_2)))) else (spec_SegOk.j0 k a0 a1 (l2_0.length : Int) true l2_0 l2_1 l2_2))) = some r := h; clear h; have HC4 := Aside0.mk H; clear H
 go_enter Tryd.func7, Tryd.ntmps7
 go_upto_region 2 with (first | ((with_reducible refine gate_dst (N := 5) rfl ?_); (try (refine gate_guard (by rfl) ?_; dsimp only)); refine box_y 5 #[.slice A2_0 l2_0.length c2_0, .slice A2_1 l2_1.length c2_1, .slice A2_2 l2_2.length c2_2] 32 (h := ?_); intro gb132 hg w5 hbox hb; have n0_ := Aside0.mk (below_step (sq_below HB.out) hb); have n1_ := Aside0.mk (hbox); have n2_ := ge_ hg (below_size (sq_below HB.out)); have n3_ := ge_ hg (below_size (sq_below HB.out)); clear HB; have HB := n0_; have BK132 := n1_; have GW132 := n2_; have GE132 := n3_; clear n0_ n1_ n2_ n3_; clear hb hbox hg; have hcz6_0 := cl_ (v := .slice A2_0 l2_0.length c2_0) BK132 0; have hcz6_1 := cl_ (v := .slice A2_1 l2_1.length c2_1) BK132 1; have hcz6_2 := cl_ (v := .slice A2_2 l2_2.length c2_2) BK132 2; have hfz6_0 := blk_frozen BK132.out 0; have hfz6_1 := blk_frozen BK132.out 1; have hfz6_2 := blk_frozen BK132.out 2))
 (try simp only [Act.put, List.setIfInBounds_toArray, List.set_cons_zero, List.set_cons_succ])
 go_cut [43] (fun v43 wc => ∃ (kq : Nat) (x43_3 : Bool), v43 = .bool x43_3 ∧ Aside0 (spec_SegOk.j0 kq a0 a1 (l2_0.length : Int) x43_3 l2_0 l2_1 l2_2 = some r) ∧ Aside0 (kq ≤ k) ∧ Aside0 (wc.heap[gb132]? = some (.cells #[(.slice A2_0 l2_0.length c2_0), (.slice A2_1 l2_1.length c2_1), (.slice A2_2 l2_2.length c2_2)] 32 (0, 0))) ∧ Aside0 (Below w.heap.size w wc))
 case first =>
  have H := HC4.out; clear HC4; replace H := Option.bind_eq_some_iff.mp H; obtain ⟨t133, A70, H⟩ := H; (try dsimp only at H); have A7 := Aside0.mk A70; clear A70
  by_cases c8 : t133 = true
  ·
   subst c8; have H1 := ifp_ H
   clear H; have H := H1; clear H1
   by_cases c9 : (l2_0.length : Int) < 1
   ·
    rw [if_pos c9] at H; have c9b0 : decide ((l2_0.length : Int) < 1) = true := decide_eq_true c9; have c9b1 : decide (l2_0.length < 1) = true := decide_eq_true (by omega); clear c9
    (first | rw [c9b0] | (simp only [i64_w, i32_w]; rw [c9b0]) | skip)
    have H' := Aside0.mk H; clear H
    go_wp2_with (first | ((with_reducible refine gate_callee (f := 23) rfl ?_); refine gl_ 18 Tryd.func23 #[.int .i64 a0, .int .i64 a1] (h := ?_); (with_reducible refine (spec_l10Size.calls a0 a1 true _ A7.out).mono ?_); rintro e w' ⟨rfl, ⟨nd, rfl⟩⟩; refine ⟨_, rfl, ?_⟩))
    go_meet
    case rel => exact ⟨_, (true), (by first | rfl | (simp; done) | (simp [*]; done)), H', ⟨by first | omega | exact Nat.le_refl _⟩, bk_ BK132, ⟨sq_below1 HB.out GE132.out⟩⟩
   ·
    rw [if_neg c9] at H; have c9b0 : decide ((l2_0.length : Int) < 1) = false := decide_eq_false c9; have c9b1 : decide (l2_0.length < 1) = false := decide_eq_false (by omega); clear c9
    (first | rw [c9b0] | (simp only [i64_w, i32_w]; rw [c9b0]) | skip)
    by_cases c10 : (l2_0.length : Int) > 16
    ·
     rw [if_pos c10] at H; have c10b0 : decide (16 < (l2_0.length : Int)) = true := decide_eq_true c10; have c10b1 : decide (16 < l2_0.length) = true := decide_eq_true (by omega); clear c10; have H' := Aside0.mk H; clear H
     go_wp2_with (first | ((with_reducible refine gate_callee (f := 23) rfl ?_); refine gl_ 18 Tryd.func23 #[.int .i64 a0, .int .i64 a1] (h := ?_); (with_reducible refine (spec_l10Size.calls a0 a1 true _ A7.out).mono ?_); rintro e w' ⟨rfl, ⟨nd, rfl⟩⟩; refine ⟨_, rfl, ?_⟩))
     go_meet
     case rel => exact ⟨_, (true), (by first | rfl | (simp; done) | (simp [*]; done)), H', ⟨by first | omega | exact Nat.le_refl _⟩, bk_ BK132, ⟨sq_below1 HB.out GE132.out⟩⟩
    ·
     rw [if_neg c10] at H; have c10b0 : decide (16 < (l2_0.length : Int)) = false := decide_eq_false c10; have c10b1 : decide (16 < l2_0.length) = false := decide_eq_false (by omega); clear c10
     by_cases c11 : (l2_1.length : Int) = (wrap64 ((l2_0.length : Int) - 1))
     ·
      rw [if_pos c11] at H; have c11b0 : ((l2_1.length : Int) == (wrap64 ((l2_0.length : Int) - 1))) = true := beq_iff_eq.mpr c11; have c11b1 : ((l2_1.length : Int) != (wrap64 ((l2_0.length : Int) - 1))) = false := bne_eq_false_iff_eq.mpr c11; clear c11; have H' := Aside0.mk H; clear H
      go_wp2_with (first | ((with_reducible refine gate_callee (f := 23) rfl ?_); refine gl_ 18 Tryd.func23 #[.int .i64 a0, .int .i64 a1] (h := ?_); (with_reducible refine (spec_l10Size.calls a0 a1 true _ A7.out).mono ?_); rintro e w' ⟨rfl, ⟨nd, rfl⟩⟩; refine ⟨_, rfl, ?_⟩; have hcz12_0 := cl_ (v := .slice A2_0 l2_0.length c2_0) BK132 0; have hcz12_1 := cl_ (v := .slice A2_1 l2_1.length c2_1) BK132 1; have hcz12_2 := cl_ (v := .slice A2_2 l2_2.length c2_2) BK132 2; have hfz12_0 := blk_frozen BK132.out 0; have hfz12_1 := blk_frozen BK132.out 1; have hfz12_2 := blk_frozen BK132.out 2))
      go_meet
      case rel => exact ⟨_, (((l2_2.length : Int) != (wrap64 ((l2_0.length : Int) - 1)))), (by first | rfl | (simp; done) | (simp [*]; done)), H', ⟨by first | omega | exact Nat.le_refl _⟩, bk_ BK132, ⟨sq_below1 HB.out GE132.out⟩⟩
     ·
      rw [if_neg c11] at H; have c11b0 : ((l2_1.length : Int) == (wrap64 ((l2_0.length : Int) - 1))) = false := beq_eq_false_iff_ne.mpr c11; have c11b1 : ((l2_1.length : Int) != (wrap64 ((l2_0.length : Int) - 1))) = true := bne_iff_ne.mpr c11; have H' := Aside0.mk H; clear H
      go_wp2_with (first | ((with_reducible refine gate_callee (f := 23) rfl ?_); refine gl_ 18 Tryd.func23 #[.int .i64 a0, .int .i64 a1] (h := ?_); (with_reducible refine (spec_l10Size.calls a0 a1 true _ A7.out).mono ?_); rintro e w' ⟨rfl, ⟨nd, rfl⟩⟩; refine ⟨_, rfl, ?_⟩; have hcz13_0 := cl_ (v := .slice A2_0 l2_0.length c2_0) BK132 0; have hcz13_1 := cl_ (v := .slice A2_1 l2_1.length c2_1) BK132 1; have hcz13_2 := cl_ (v := .slice A2_2 l2_2.length c2_2) BK132 2; have hfz13_0 := blk_frozen BK132.out 0; have hfz13_1 := blk_frozen BK132.out 1; have hfz13_2 := blk_frozen BK132.out 2))
      go_meet
      case rel => exact ⟨_, (true), (by first | rfl | (simp; done) | (simp [*]; done)), H', ⟨by first | omega | exact Nat.le_refl _⟩, bk_ BK132, ⟨sq_below1 HB.out GE132.out⟩⟩
  ·
   replace c8 := Bool.eq_false_iff.mpr c8; subst c8; have H1 := ifn_ H
   clear H; have H := H1; clear H1; have H' := Aside0.mk H; clear H
   go_wp2_with (first | ((with_reducible refine gate_callee (f := 23) rfl ?_); refine gl_ 18 Tryd.func23 #[.int .i64 a0, .int .i64 a1] (h := ?_); (with_reducible refine (spec_l10Size.calls a0 a1 false _ A7.out).mono ?_); rintro e w' ⟨rfl, ⟨nd, rfl⟩⟩; refine ⟨_, rfl, ?_⟩))
   go_meet
   case rel => exact ⟨_, (true), (by first | rfl | (simp; done) | (simp [*]; done)), H', ⟨by first | omega | exact Nat.le_refl _⟩, bk_ BK132, ⟨sq_below1 HB.out GE132.out⟩⟩
 case rest =>
  clear HC4
  try clear c1
  try clear c2
  try clear p2
  try clear p6
  try clear c7
  try clear c8
  try clear c9
  try clear c9b0
  try clear c9b1
  try clear c10
  try clear c10b0
  try clear c10b1
  try clear c11
  try clear c11b0
  try clear c11b1
  try clear hcz12_0
  try clear hcz12_1
  try clear hcz12_2
  try clear hcz13_0
  try clear hcz13_1
  try clear hcz13_2
  try clear hcz6_0
  try clear hcz6_1
  try clear hcz6_2
  try clear hfz12_0
  try clear hfz12_1
  try clear hfz12_2
  try clear hfz13_0
  try clear hfz13_1
  try clear hfz13_2
  try clear hfz6_0
  try clear hfz6_1
  try clear hfz6_2
  obtain ⟨kq, x43_3, rfl, HA, HJ3, BK132, HB⟩ := hcut; cases kq with
  | zero => exact absurd HA.out (by simp [spec_SegOk.j0])
  | succ kj3 =>
   have H := HA.out; clear HA; simp only [spec_SegOk.j0] at H
   by_cases c14 : x43_3 = true
   ·
    subst c14; have H1 := ifp_ H
    clear H; have H := H1; clear H1; obtain rfl := Option.some.inj H
    go_wp2
    go_ret
    exact ⟨by first | rfl | (simp [errW_none, errW_some] <;> rfl) | (simp [*, errW_none, errW_some] <;> rfl), sq_below1 HB.out GE132.out⟩
   ·
    replace c14 := Bool.eq_false_iff.mpr c14; subst c14; have H1 := ifn_ H
    clear H; have H := H1; clear H1; have H' := Aside0.mk H; clear H
    go_wp2
    go_loopg [8, 9] kj3 (fun kq v8 v9 w' => ∃ (x8_2 : Int) (x9_2 : Int), v8 = .int .i64 x8_2 ∧ v9 = .int .i64 x9_2 ∧ Aside0 (spec_SegOk.l0 kq a0 a1 (l2_0.length : Int) x8_2 x9_2 l2_0 l2_1 l2_2 = some r) ∧ Aside0 (kq ≤ kj3) ∧ Aside0 (w'.heap[gb132]? = some (.cells #[(.slice A2_0 l2_0.length c2_0), (.slice A2_1 l2_1.length c2_1), (.slice A2_2 l2_2.length c2_2)] 32 (0, 0))) ∧ Aside0 (Below w.heap.size w w'))
    case atStart => exact ⟨(0), (0), (by first | rfl | (simp; done) | (simp [*]; done)), (by first | rfl | (simp; done) | (simp [*]; done)), H', ⟨Nat.le_refl _⟩, bk_ BK132, ⟨sq_below1 HB.out GE132.out⟩⟩
    case round =>
     clear H'
     try clear c1
     try clear c2
     try clear p2
     try clear p6
     try clear c7
     try clear c8
     try clear c9
     try clear c9b0
     try clear c9b1
     try clear c10
     try clear c10b0
     try clear c10b1
     try clear c11
     try clear c11b0
     try clear c11b1
     try clear c14
     try clear hcz12_0
     try clear hcz12_1
     try clear hcz12_2
     try clear hcz13_0
     try clear hcz13_1
     try clear hcz13_2
     try clear hcz6_0
     try clear hcz6_1
     try clear hcz6_2
     try clear hfz12_0
     try clear hfz12_1
     try clear hfz12_2
     try clear hfz13_0
     try clear hfz13_1
     try clear hfz13_2
     try clear hfz6_0
     try clear hfz6_1
     try clear hfz6_2
     try clear p2
     try clear p6
     obtain ⟨x8_2, x9_2, rfl, rfl, HA, HK2, BK132, HB⟩ := hrel; cases gk with
     | zero => exact absurd HA.out (by simp [spec_SegOk.l0])
     | succ k2 =>
      have H := HA.out; clear HA; simp only [spec_SegOk.l0] at H
      by_cases c15 : x9_2 < (l2_0.length : Int)
      ·
       rw [if_pos c15] at H; have c15b0 : decide (x9_2 < (l2_0.length : Int)) = true := decide_eq_true c15; clear c15
       by_cases c16 : 0 ≤ x9_2
       ·
        rw [if_pos c16] at H; have c16b0 : decide (0 ≤ x9_2) = true := decide_eq_true c16; clear c16
        by_cases c17 : x9_2 < (l2_0.length : Int)
        ·
         rw [if_pos c17] at H; have c17b0 : decide (x9_2 < (l2_0.length : Int)) = true := decide_eq_true c17; clear c17; have HC18 := Aside0.mk H; clear H; have hcz19_0 := cl_ (v := .slice A2_0 l2_0.length c2_0) BK132 0; have hcz19_1 := cl_ (v := .slice A2_1 l2_1.length c2_1) BK132 1; have hcz19_2 := cl_ (v := .slice A2_2 l2_2.length c2_2) BK132 2; have hfz19_0 := blk_frozen BK132.out 0; have hfz19_1 := blk_frozen BK132.out 1; have hfz19_2 := blk_frozen BK132.out 2; have p134 : 0 ≤ (x9_2 : Int) := sq_dec; have q134 : x9_2 < (l2_0.length : Int) := sq_dec; obtain ⟨ad134, A134_0, c134_0, e134, hx134_0, hl134_0, hi134_0⟩ := at_L7 HR2_0.out x9_2 p134 q134; cases e134; replace hx134_0 := (HB.out.cell (World.block_lt_of_cell? w _ hx134_0)).trans hx134_0; have HR134_0 := Aside0.mk hi134_0; have HC134_0 := Aside0.mk hl134_0; clear hi134_0 hl134_0; replace p134 := eq_true p134; replace q134 := eq_true q134
         go_upto_region 10 with (fail)
         go_cut [64] (fun v64 wc => ∃ (kq : Nat) (x64_17 : Bool), v64 = .bool x64_17 ∧ Aside0 (spec_SegOk.j2 kq a0 a1 (l2_0.length : Int) (wrap64 (x8_2 + ((rd_L7 l2_0 x9_2).length : Int))) x9_2 (rd_L7 l2_0 x9_2) x64_17 l2_0 l2_1 l2_2 = some r) ∧ Aside0 (kq ≤ k2) ∧ Aside0 (wc.heap[gb132]? = some (.cells #[(.slice (some ad134) l2_0.length c2_0), (.slice A2_1 l2_1.length c2_1), (.slice A2_2 l2_2.length c2_2)] 32 (0, 0))) ∧ Aside0 (Below w.heap.size w wc))
         case first =>
          have H := HC18.out; clear HC18
          by_cases c20 : ((rd_L7 l2_0 x9_2).length : Int) = 0
          ·
           rw [if_pos c20] at H; have c20b0 : (((rd_L7 l2_0 x9_2).length : Int) == 0) = true := beq_iff_eq.mpr c20; have c20b1 : (((rd_L7 l2_0 x9_2).length : Int) != 0) = false := bne_eq_false_iff_eq.mpr c20; clear c20
           (first | rw [c20b0] | (simp only [i64_w, i32_w]; rw [c20b0]) | skip)
           have H' := Aside0.mk H; clear H
           go_wp2
           go_meet
           case rel => exact ⟨_, (true), (by first | rfl | (simp; done) | (simp [*]; done)), H', ⟨by have := HJ3.out; have := HK2.out; first | omega | exact Nat.le_refl _⟩, bk_ BK132, ⟨sq_below1 HB.out GE132.out⟩⟩
          ·
           rw [if_neg c20] at H; have c20b0 : (((rd_L7 l2_0 x9_2).length : Int) == 0) = false := beq_eq_false_iff_ne.mpr c20; have c20b1 : (((rd_L7 l2_0 x9_2).length : Int) != 0) = true := bne_iff_ne.mpr c20; have c20b2 : ¬ ((rd_L7 l2_0 x9_2) = []) := fun h_ => c20 (by rw [h_]; rfl)
           (first | rw [c20b0] | (simp only [i64_w, i32_w]; rw [c20b0]) | skip)
           have H' := Aside0.mk H; clear H
           go_wp2
           go_meet
           case rel => exact ⟨_, (decide ((wrap64 (x8_2 + ((rd_L7 l2_0 x9_2).length : Int))) > 40)), (by first | rfl | (simp; done) | (simp [*]; done)), H', ⟨by have := HJ3.out; have := HK2.out; first | omega | exact Nat.le_refl _⟩, bk_ BK132, ⟨sq_below1 HB.out GE132.out⟩⟩
         case rest =>
          clear HC18
          try clear c1
          try clear p1
          try clear q1
          try clear hx1
          try clear c2
          try clear p2
          try clear p6
          try clear c7
          try clear c8
          try clear c9
          try clear c9b0
          try clear c9b1
          try clear c10
          try clear c10b0
          try clear c10b1
          try clear c11
          try clear c11b0
          try clear c11b1
          try clear c13
          try clear p13
          try clear q13
          try clear hx13
          try clear c14
          try clear c15
          try clear c15b0
          try clear c16
          try clear c16b0
          try clear c17
          try clear c17b0
          try clear c20
          try clear c20b0
          try clear c20b1
          try clear c20b2
          try clear hcz12_0
          try clear hcz12_1
          try clear hcz12_2
          try clear hcz13_0
          try clear hcz13_1
          try clear hcz13_2
          try clear hcz19_0
          try clear hcz19_1
          try clear hcz19_2
          try clear hcz6_0
          try clear hcz6_1
          try clear hcz6_2
          try clear hfz12_0
          try clear hfz12_1
          try clear hfz12_2
          try clear hfz13_0
          try clear hfz13_1
          try clear hfz13_2
          try clear hfz19_0
          try clear hfz19_1
          try clear hfz19_2
          try clear hfz6_0
          try clear hfz6_1
          try clear hfz6_2
          try clear hx134_0
          try clear p134
          try clear p2
          try clear p6
          try clear q134
          obtain ⟨kq, x64_17, rfl, HA, HJ17, BK132, HB⟩ := hcut; cases kq with
          | zero => exact absurd HA.out (by simp [spec_SegOk.j2])
          | succ kj17 =>
           have H := HA.out; clear HA; simp only [spec_SegOk.j2] at H
           by_cases c21 : x64_17 = true
           ·
            subst c21; have H1 := ifp_ H
            clear H; have H := H1; clear H1; obtain rfl := Option.some.inj H
            go_wp2
            go_ret
            exact ⟨by first | rfl | (simp [errW_none, errW_some] <;> rfl) | (simp [*, errW_none, errW_some] <;> rfl), sq_below1 HB.out GE132.out⟩
           ·
            replace c21 := Bool.eq_false_iff.mpr c21; subst c21; have H1 := ifn_ H
            clear H; have H := H1; clear H1; have H' := Aside0.mk H; clear H
            go_wp2
            go_loopg [11] kj17 (fun kq v11 w' => ∃ (x11_4 : Int), v11 = .int .i64 x11_4 ∧ Aside0 (spec_SegOk.l1 kq a0 a1 (l2_0.length : Int) (wrap64 (x8_2 + ((rd_L7 l2_0 x9_2).length : Int))) x9_2 (rd_L7 l2_0 x9_2) x11_4 l2_0 l2_1 l2_2 = some r) ∧ Aside0 (kq ≤ kj17) ∧ Aside0 (w'.heap[gb132]? = some (.cells #[(.slice (some ad134) l2_0.length c2_0), (.slice A2_1 l2_1.length c2_1), (.slice A2_2 l2_2.length c2_2)] 32 (0, 0))) ∧ Aside0 (Below w.heap.size w w'))
            case atStart => exact ⟨(0), (by first | rfl | (simp; done) | (simp [*]; done)), H', ⟨Nat.le_refl _⟩, bk_ BK132, ⟨sq_below1 HB.out GE132.out⟩⟩
            case round =>
             clear H'
             try clear c1
             try clear p1
             try clear q1
             try clear hx1
             try clear c2
             try clear p2
             try clear p6
             try clear c7
             try clear c8
             try clear c9
             try clear c9b0
             try clear c9b1
             try clear c10
             try clear c10b0
             try clear c10b1
             try clear c11
             try clear c11b0
             try clear c11b1
             try clear c13
             try clear p13
             try clear q13
             try clear hx13
             try clear c14
             try clear c15
             try clear c15b0
             try clear c16
             try clear c16b0
             try clear c17
             try clear c17b0
             try clear c20
             try clear c20b0
             try clear c20b1
             try clear c20b2
             try clear c21
             try clear hcz12_0
             try clear hcz12_1
             try clear hcz12_2
             try clear hcz13_0
             try clear hcz13_1
             try clear hcz13_2
             try clear hcz19_0
             try clear hcz19_1
             try clear hcz19_2
             try clear hcz6_0
             try clear hcz6_1
             try clear hcz6_2
             try clear hfz12_0
             try clear hfz12_1
             try clear hfz12_2
             try clear hfz13_0
             try clear hfz13_1
             try clear hfz13_2
             try clear hfz19_0
             try clear hfz19_1
             try clear hfz19_2
             try clear hfz6_0
             try clear hfz6_1
             try clear hfz6_2
             try clear hx134_0
             try clear p1
             try clear p13
             try clear p134
             try clear p2
             try clear p6
             try clear q1
             try clear q13
             try clear q134
             obtain ⟨x11_4, rfl, HA, HK4, BK132, HB⟩ := hrel; cases gk with
             | zero => exact absurd HA.out (by simp [spec_SegOk.l1])
             | succ k4 =>
              have H := HA.out; clear HA; simp only [spec_SegOk.l1] at H
              by_cases c22 : x11_4 < ((rd_L7 l2_0 x9_2).length : Int)
              ·
               rw [if_pos c22] at H; have c22b0 : decide (x11_4 < ((rd_L7 l2_0 x9_2).length : Int)) = true := decide_eq_true c22; clear c22
               by_cases c23 : 0 ≤ x11_4
               ·
                rw [if_pos c23] at H; have c23b0 : decide (0 ≤ x11_4) = true := decide_eq_true c23; clear c23; replace H := Option.bind_eq_some_iff.mp H; obtain ⟨t136, A240, H⟩ := H; (try dsimp only at H); have A24 := Aside0.mk A240; clear A240
                by_cases c25 : t136 = true
                ·
                 subst c25; have H1 := ifp_ H
                 clear H; have H := H1; clear H1
                 by_cases c26 : x11_4 > 0
                 ·
                  rw [if_pos c26] at H; have c26b0 : decide (0 < x11_4) = true := decide_eq_true c26; clear c26; obtain ⟨ji27, hji27⟩ : ∃ j_ : Int, (wrap64 (x11_4 - 1)) = j_ := ⟨_, rfl⟩; replace H : (if 0 ≤ (ji27) then (if (ji27) < ((rd_L7 l2_0 x9_2).length : Int) then ((spec_SymLess.f ((rd_T55 (rd_L7 l2_0 x9_2) (ji27)).f0) ((rd_T55 (rd_L7 l2_0 x9_2) (ji27)).f1) ((rd_T55 (rd_L7 l2_0 x9_2) x11_4).f0) ((rd_T55 (rd_L7 l2_0 x9_2) x11_4).f1)).bind fun t139 => (if t139 = true then ((spec_l10In.f k4 l2_0 l2_1 l2_2 ((rd_T55 (rd_L7 l2_0 x9_2) x11_4).f0) ((rd_T55 (rd_L7 l2_0 x9_2) x11_4).f1)).bind fun t141 => (if t141 = x9_2 then (spec_SegOk.l1 k4 a0 a1 (l2_0.length : Int) (wrap64 (x8_2 + ((rd_L7 l2_0 x9_2).length : Int))) x9_2 (rd_L7 l2_0 x9_2) (wrap64 (x11_4 + 1)) l2_0 l2_1 l2_2) else (some false))) else (some false))) else (none)) else (none)) = some r := by first | (rw [hji27] at H; exact H) | (simp only [hji27] at H ⊢; exact H)
                  (try rw [hji27] at A24)
                  have hji27w : (IntKind.i64.wrap (x11_4 - 1)) = ji27 := (i64_w _).trans hji27
                  by_cases c28 : 0 ≤ (ji27)
                  ·
                   rw [if_pos c28] at H; have c28b0 : decide (0 ≤ (ji27)) = true := decide_eq_true c28; clear c28
                   by_cases c29 : (ji27) < ((rd_L7 l2_0 x9_2).length : Int)
                   ·
                    rw [if_pos c29] at H; have c29b0 : decide ((ji27) < ((rd_L7 l2_0 x9_2).length : Int)) = true := decide_eq_true c29; clear c29; replace H := Option.bind_eq_some_iff.mp H; obtain ⟨t139, A300, H⟩ := H; (try dsimp only at H); have A30 := Aside0.mk A300; clear A300
                    by_cases c31 : t139 = true
                    ·
                     subst c31; have H1 := ifp_ H
                     clear H; have H := H1; clear H1; replace H := Option.bind_eq_some_iff.mp H; obtain ⟨t141, A320, H⟩ := H; (try dsimp only at H); have A32 := Aside0.mk A320; clear A320
                     by_cases c33 : t141 = x9_2
                     ·
                      rw [if_pos c33] at H; have c33b0 : (t141 == x9_2) = true := beq_iff_eq.mpr c33; have c33b1 : (t141 != x9_2) = false := bne_eq_false_iff_eq.mpr c33; clear c33; have H' := Aside0.mk H; clear H
                      try go_wp2
                      replace BK132 := bd_ BK132; replace HB := hd_ HB; have p135 : 0 ≤ (x11_4 : Int) := sq_dec; have q135 : x11_4 < ((rd_L7 l2_0 x9_2).length : Int) := sq_dec; obtain ⟨ad135, e135, hx135_0, hx135_1⟩ := at_T55 HR134_0.out x11_4 p135 q135; have hw135_1 := hx135_1; have hw135_0 := hx135_0; cases e135; replace hx135_0 := (HB.out.cell (World.block_lt_of_cell? w _ hx135_0)).trans hx135_0; replace hx135_1 := (HB.out.cell (World.block_lt_of_cell? w _ hx135_1)).trans hx135_1; replace p135 := eq_true p135; replace q135 := eq_true q135; have p137 : 0 ≤ ((ji27) : Int) := sq_dec; have q137 : (ji27) < ((rd_L7 l2_0 x9_2).length : Int) := sq_dec; obtain ⟨ad137, e137, hx137_0, hx137_1⟩ := at_T55 HR134_0.out (ji27) p137 q137; have hw137_1 := hx137_1; have hw137_0 := hx137_0; obtain rfl : ad135 = ad137 := (by injection e137); replace hx137_0 := (HB.out.cell (World.block_lt_of_cell? w _ hx137_0)).trans hx137_0; replace hx137_1 := (HB.out.cell (World.block_lt_of_cell? w _ hx137_1)).trans hx137_1; replace p137 := eq_true p137; replace q137 := eq_true q137; have p138 : 0 ≤ (x11_4 : Int) := sq_dec; have q138 : x11_4 < ((rd_L7 l2_0 x9_2).length : Int) := sq_dec; obtain ⟨ad138, e138, hx138_0, hx138_1⟩ := at_T55 HR134_0.out x11_4 p138 q138; have hw138_1 := hx138_1; have hw138_0 := hx138_0; obtain rfl : ad135 = ad138 := (by injection e138); replace hx138_0 := (HB.out.cell (World.block_lt_of_cell? w _ hx138_0)).trans hx138_0; replace hx138_1 := (HB.out.cell (World.block_lt_of_cell? w _ hx138_1)).trans hx138_1; replace p138 := eq_true p138; replace q138 := eq_true q138; have p140 : 0 ≤ (x11_4 : Int) := sq_dec; have q140 : x11_4 < ((rd_L7 l2_0 x9_2).length : Int) := sq_dec; obtain ⟨ad140, e140, hx140_0, hx140_1⟩ := at_T55 HR134_0.out x11_4 p140 q140; have hw140_1 := hx140_1; have hw140_0 := hx140_0; obtain rfl : ad135 = ad140 := (by injection e140); replace hx140_0 := (HB.out.cell (World.block_lt_of_cell? w _ hx140_0)).trans hx140_0; replace hx140_1 := (HB.out.cell (World.block_lt_of_cell? w _ hx140_1)).trans hx140_1; replace p140 := eq_true p140; replace q140 := eq_true q140; refine start_ (n := 34) (S := fun w' => w'.cell? ⟨gb132, 0, none⟩ = some (.slice (some ad134) l2_0.length c2_0) ∧ w'.cell? ⟨gb132, 1, none⟩ = some (.slice A2_1 l2_1.length c2_1) ∧ w'.cell? ⟨gb132, 2, none⟩ = some (.slice A2_2 l2_2.length c2_2) ∧ w'.cell? (ad135.add ((x11_4).toNat * 2)) = some (.int .i64 ((rd_T55 (rd_L7 l2_0 x9_2) x11_4).f0)) ∧ w'.cell? ⟨(ad135.add ((x11_4).toNat * 2)).block, (ad135.add ((x11_4).toNat * 2)).off + 1, none⟩ = some (.int .i64 ((rd_T55 (rd_L7 l2_0 x9_2) x11_4).f1)) ∧ w'.cell? (ad135.add (((ji27)).toNat * 2)) = some (.int .i64 ((rd_T55 (rd_L7 l2_0 x9_2) (ji27)).f0)) ∧ w'.cell? ⟨(ad135.add (((ji27)).toNat * 2)).block, (ad135.add (((ji27)).toNat * 2)).off + 1, none⟩ = some (.int .i64 ((rd_T55 (rd_L7 l2_0 x9_2) (ji27)).f1)) ∧ w'.cell? (ad135.add ((x11_4).toNat * 2)) = some (.int .i64 ((rd_T55 (rd_L7 l2_0 x9_2) x11_4).f0)) ∧ w'.cell? ⟨(ad135.add ((x11_4).toNat * 2)).block, (ad135.add ((x11_4).toNat * 2)).off + 1, none⟩ = some (.int .i64 ((rd_T55 (rd_L7 l2_0 x9_2) x11_4).f1)) ∧ w'.cell? (ad135.add ((x11_4).toNat * 2)) = some (.int .i64 ((rd_T55 (rd_L7 l2_0 x9_2) x11_4).f0)) ∧ w'.cell? ⟨(ad135.add ((x11_4).toNat * 2)).block, (ad135.add ((x11_4).toNat * 2)).off + 1, none⟩ = some (.int .i64 ((rd_T55 (rd_L7 l2_0 x9_2) x11_4).f1))) (ds := []) spec_SegOk.b0_ (by kernel_rfl) rfl rfl ⟨cl_ BK132 0, cl_ BK132 1, cl_ BK132 2, ((HB.out.cell (World.block_lt_of_cell? w _ hw135_0)).trans hw135_0), ((HB.out.cell (World.block_lt_of_cell? w _ hw135_1)).trans hw135_1), ((HB.out.cell (World.block_lt_of_cell? w _ hw137_0)).trans hw137_0), ((HB.out.cell (World.block_lt_of_cell? w _ hw137_1)).trans hw137_1), ((HB.out.cell (World.block_lt_of_cell? w _ hw138_0)).trans hw138_0), ((HB.out.cell (World.block_lt_of_cell? w _ hw138_1)).trans hw138_1), ((HB.out.cell (World.block_lt_of_cell? w _ hw140_0)).trans hw140_0), ((HB.out.cell (World.block_lt_of_cell? w _ hw140_1)).trans hw140_1)⟩ (fun hHeld => ?_); refine with_tabW spec_SegOk.tab15 spec_SegOk.bits15 (fun HT_ HW_ => ?_); generalize wr.drew = w34 at BK132 HB hx135_0 hx135_1 hx137_0 hx137_1 hx138_0 hx138_1 hx140_0 hx140_1 hHeld ⊢; refine pure_y 0 (some 71) spec_SegOk.b1_ (any_of HT_.out (by kernel_rfl)) (h := ?_)
                      refine pure_y 1 (some 72) spec_SegOk.b2_ (any_of HT_.out (by kernel_rfl)) (h := ?_)
                      refine pure_y 2 (some 73) spec_SegOk.b3_ (any_of HT_.out (by kernel_rfl)) (h := ?_)
                      refine pure_y 3 (some 74) spec_SegOk.b4_ (any_of HT_.out (by kernel_rfl)) (h := ?_)
                      refine take_y 4 (some 75) spec_SegOk.b5_ rfl (take_ofW HT_.out HW_.out (by kernel_rfl)) hHeld (Or.inl ⟨by rfl, (by rintro w' ⟨s0, s1, s2, s3, s4, s5, s6, s7, s8, s9, s10⟩; go_simp; with_reducible rfl)⟩) (h := ?_)
                      refine one_ (i := 5) (N := some 76) spec_SegOk.b6_ rfl rfl (one_of HT_.out (by kernel_rfl)) (by decide) (fun K hK => ?_); refine gs_ Tryd.func24 #[.int .i64 a0, .agg #[.int .i64 ((rd_T55 (rd_L7 l2_0 x9_2) x11_4).f0), .int .i64 ((rd_T55 (rd_L7 l2_0 x9_2) x11_4).f1)]] (h := ?_); with_reducible refine (spec_SymOk.calls a0 ((rd_T55 (rd_L7 l2_0 x9_2) x11_4).f0) ((rd_T55 (rd_L7 l2_0 x9_2) x11_4).f1) true _ A24.out).mono ?_
                      rintro e w35 ⟨rfl, hb⟩; refine ⟨_, rfl, ?_⟩; replace BK132 := bb_ BK132 hb; replace HB := hb1_ HB hb GE132
                      (try clear hb)
                      (try clear hb2)
                      (try clear hk)
                      (try clear hi)
                      refine hK.out _ _ ⟨cl_ BK132 0, cl_ BK132 1, cl_ BK132 2, ((HB.out.cell (World.block_lt_of_cell? w _ hw135_0)).trans hw135_0), ((HB.out.cell (World.block_lt_of_cell? w _ hw135_1)).trans hw135_1), ((HB.out.cell (World.block_lt_of_cell? w _ hw137_0)).trans hw137_0), ((HB.out.cell (World.block_lt_of_cell? w _ hw137_1)).trans hw137_1), ((HB.out.cell (World.block_lt_of_cell? w _ hw138_0)).trans hw138_0), ((HB.out.cell (World.block_lt_of_cell? w _ hw138_1)).trans hw138_1), ((HB.out.cell (World.block_lt_of_cell? w _ hw140_0)).trans hw140_0), ((HB.out.cell (World.block_lt_of_cell? w _ hw140_1)).trans hw140_1)⟩ (fun hHeld => ?_); clear hK K; refine norm_y 76 (h := ?_)
                      refine pure_y 6 (some 77) spec_SegOk.b7_ (any_of HT_.out (by kernel_rfl)) (h := ?_)
                      refine pure_y 7 (some 78) spec_SegOk.b8_ (any_of HT_.out (by kernel_rfl)) (h := ?_)
                      refine pure_y 8 (some 79) spec_SegOk.b9_ (any_of HT_.out (by kernel_rfl)) (h := ?_)
                      refine pure_y 9 (some 80) spec_SegOk.b10_ (any_of HT_.out (by kernel_rfl)) (h := ?_)
                      refine pure_y 10 (some 81) spec_SegOk.b11_ (any_of HT_.out (by kernel_rfl)) (h := ?_)
                      refine pure_y 11 (some 82) spec_SegOk.b12_ (any_of HT_.out (by kernel_rfl)) (h := ?_)
                      refine pure_y 12 (some 83) spec_SegOk.b13_ (any_of HT_.out (by kernel_rfl)) (h := ?_)
                      refine pure_y 13 (some 84) spec_SegOk.b14_ (any_of HT_.out (by kernel_rfl)) (h := ?_)
                      refine pure_y 14 (some 85) spec_SegOk.b15_ (any_of HT_.out (by kernel_rfl)) (h := ?_)
                      refine pure_y 16 (some 87) spec_SegOk.b16_ (any_of HT_.out (by kernel_rfl)) (h := ?_)
                      refine pure_y 17 (some 88) spec_SegOk.b18_ (any_of HT_.out (by kernel_rfl)) (h := ?_)
                      refine pure_y 18 (some 89) spec_SegOk.b20_ (any_of HT_.out (by kernel_rfl)) (h := ?_)
                      refine take_y 15 (some 86) spec_SegOk.b22_ rfl (take_ofW HT_.out HW_.out (by kernel_rfl)) hHeld (Or.inl ⟨by rfl, (by rintro w' ⟨s0, s1, s2, s3, s4, s5, s6, s7, s8, s9, s10⟩; go_simp; with_reducible rfl)⟩) (h := ?_)
                      refine take_y 19 (some 90) spec_SegOk.b23_ rfl (take_ofW HT_.out HW_.out (by kernel_rfl)) hHeld (Or.inl ⟨by rfl, (by rintro w' ⟨s0, s1, s2, s3, s4, s5, s6, s7, s8, s9, s10⟩; go_simp; with_reducible rfl)⟩) (h := ?_)
                      refine one_ (i := 20) (N := some 91) spec_SegOk.b24_ rfl rfl (one_of HT_.out (by kernel_rfl)) (by decide) (fun K hK => ?_); refine goes_ Tryd.func25 (by kernel_rfl) rfl #[.agg #[.int .i64 ((rd_T55 (rd_L7 l2_0 x9_2) (ji27)).f0), .int .i64 ((rd_T55 (rd_L7 l2_0 x9_2) (ji27)).f1)], .agg #[.int .i64 ((rd_T55 (rd_L7 l2_0 x9_2) x11_4).f0), .int .i64 ((rd_T55 (rd_L7 l2_0 x9_2) x11_4).f1)]] (by rfl) rfl rfl (by (try simp only [List.map_toArray, List.map_cons, List.map_nil]); first | done | (simp only [hji27]; rfl) | rfl | (simp only [List.length_drop, List.length_take]; rfl)) ?_; with_reducible refine (spec_SymLess.calls ((rd_T55 (rd_L7 l2_0 x9_2) (ji27)).f0) ((rd_T55 (rd_L7 l2_0 x9_2) (ji27)).f1) ((rd_T55 (rd_L7 l2_0 x9_2) x11_4).f0) ((rd_T55 (rd_L7 l2_0 x9_2) x11_4).f1) true _ A30.out).mono ?_
                      rintro e w36 ⟨rfl, hb⟩; refine ⟨_, rfl, ?_⟩; replace BK132 := bb_ BK132 hb; replace HB := hb1_ HB hb GE132
                      (try clear hb)
                      (try clear hb2)
                      (try clear hk)
                      (try clear hi)
                      refine hK.out _ _ ⟨cl_ BK132 0, cl_ BK132 1, cl_ BK132 2, ((HB.out.cell (World.block_lt_of_cell? w _ hw135_0)).trans hw135_0), ((HB.out.cell (World.block_lt_of_cell? w _ hw135_1)).trans hw135_1), ((HB.out.cell (World.block_lt_of_cell? w _ hw137_0)).trans hw137_0), ((HB.out.cell (World.block_lt_of_cell? w _ hw137_1)).trans hw137_1), ((HB.out.cell (World.block_lt_of_cell? w _ hw138_0)).trans hw138_0), ((HB.out.cell (World.block_lt_of_cell? w _ hw138_1)).trans hw138_1), ((HB.out.cell (World.block_lt_of_cell? w _ hw140_0)).trans hw140_0), ((HB.out.cell (World.block_lt_of_cell? w _ hw140_1)).trans hw140_1)⟩ (fun hHeld => ?_); clear hK K; refine norm_y 91 (h := ?_)
                      refine pure_y 21 (some 92) spec_SegOk.b25_ (any_of HT_.out (by kernel_rfl)) (h := ?_)
                      refine pure_y 22 (some 93) spec_SegOk.b26_ (any_of HT_.out (by kernel_rfl)) (h := ?_)
                      refine pure_y 23 (some 94) spec_SegOk.b27_ (any_of HT_.out (by kernel_rfl)) (h := ?_)
                      refine pure_y 24 (some 95) spec_SegOk.b28_ (any_of HT_.out (by kernel_rfl)) (h := ?_)
                      refine pure_y 26 (some 97) spec_SegOk.b29_ (any_of HT_.out (by kernel_rfl)) (h := ?_)
                      refine pure_y 27 (some 98) spec_SegOk.b31_ (any_of HT_.out (by kernel_rfl)) (h := ?_)
                      refine pure_y 28 (some 99) spec_SegOk.b33_ (any_of HT_.out (by kernel_rfl)) (h := ?_)
                      refine pure_y 31 (some 102) spec_SegOk.b35_ (any_of HT_.out (by kernel_rfl)) (h := ?_)
                      refine take_y 25 (some 96) spec_SegOk.b37_ rfl (take_ofW HT_.out HW_.out (by kernel_rfl)) hHeld (Or.inl ⟨by rfl, (by rintro w' ⟨s0, s1, s2, s3, s4, s5, s6, s7, s8, s9, s10⟩; go_simp; with_reducible rfl)⟩) (h := ?_)
                      refine take_y 29 (some 100) spec_SegOk.b39_ rfl (take_ofW HT_.out HW_.out (by kernel_rfl)) hHeld (Or.inl ⟨by rfl, (by rintro w' ⟨s0, s1, s2, s3, s4, s5, s6, s7, s8, s9, s10⟩; go_simp; with_reducible rfl)⟩) (h := ?_)
                      refine one_ (i := 30) (N := some 101) spec_SegOk.b41_ rfl rfl (one_of HT_.out (by kernel_rfl)) (by decide) (fun K hK => ?_); refine gs_ Tryd.func26 #[.agg #[.slice (some ad134) l2_0.length c2_0, .slice A2_1 l2_1.length c2_1, .slice A2_2 l2_2.length c2_2], .agg #[.int .i64 ((rd_T55 (rd_L7 l2_0 x9_2) x11_4).f0), .int .i64 ((rd_T55 (rd_L7 l2_0 x9_2) x11_4).f1)]] (h := ?_); with_reducible refine (spec_l10In.calls k4 _ _ l2_0 _ _ l2_1 _ _ l2_2 ((rd_T55 (rd_L7 l2_0 x9_2) x11_4).f0) ((rd_T55 (rd_L7 l2_0 x9_2) x11_4).f1) t141 _ ?side1 ?side2 ?side3 ?side4 ?side5 ?side6 A32.out).mono ?_
                      (case side1 => exact sq_c (Kd.C_below HR2_0.out HB.out))
                      (case side2 => exact HC2_0.out)
                      (case side3 => exact sq_c (Kd.C_below HR2_1.out HB.out))
                      (case side4 => exact HC2_1.out)
                      (case side5 => exact sq_c (Kd.C_below HR2_2.out HB.out))
                      (case side6 => exact HC2_2.out)
                      rintro e w37 ⟨rfl, hb⟩; refine ⟨_, rfl, ?_⟩; replace BK132 := bb_ BK132 hb; replace HB := hb1_ HB hb GE132
                      (try clear hb)
                      (try clear hb2)
                      (try clear hk)
                      (try clear hi)
                      refine hK.out _ _ ⟨cl_ BK132 0, cl_ BK132 1, cl_ BK132 2, ((HB.out.cell (World.block_lt_of_cell? w _ hw135_0)).trans hw135_0), ((HB.out.cell (World.block_lt_of_cell? w _ hw135_1)).trans hw135_1), ((HB.out.cell (World.block_lt_of_cell? w _ hw137_0)).trans hw137_0), ((HB.out.cell (World.block_lt_of_cell? w _ hw137_1)).trans hw137_1), ((HB.out.cell (World.block_lt_of_cell? w _ hw138_0)).trans hw138_0), ((HB.out.cell (World.block_lt_of_cell? w _ hw138_1)).trans hw138_1), ((HB.out.cell (World.block_lt_of_cell? w _ hw140_0)).trans hw140_0), ((HB.out.cell (World.block_lt_of_cell? w _ hw140_1)).trans hw140_1)⟩ (fun hHeld => ?_); clear hK K; refine norm_y 101 (h := ?_)
                      refine pure_y 32 (some 103) spec_SegOk.b42_ (any_of HT_.out (by kernel_rfl)) (h := ?_)
                      refine pure_y 33 (some 104) spec_SegOk.b43_ (any_of HT_.out (by kernel_rfl)) (h := ?_)
                      refine done_ (done_of HT_.out (by kernel_rfl)) ?_
                      try go_wp2
                      go_roundg k4
                      case measure => have := HJ3.out; have := HK2.out; have := HJ17.out; have := HK4.out; omega
                      case rel => exact ⟨(wrap64 (x11_4 + 1)), (by first | rfl | (simp; done) | (simp [*]; done)), H', ⟨by have := HJ3.out; have := HK2.out; have := HJ17.out; have := HK4.out; omega⟩, bk_ BK132, ⟨sq_below1 HB.out GE132.out⟩⟩
                     ·
                      rw [if_neg c33] at H; have c33b0 : (t141 == x9_2) = false := beq_eq_false_iff_ne.mpr c33; have c33b1 : (t141 != x9_2) = true := bne_iff_ne.mpr c33; obtain rfl := Option.some.inj H
                      try go_wp2
                      replace BK132 := bd_ BK132; replace HB := hd_ HB; have p135 : 0 ≤ (x11_4 : Int) := sq_dec; have q135 : x11_4 < ((rd_L7 l2_0 x9_2).length : Int) := sq_dec; obtain ⟨ad135, e135, hx135_0, hx135_1⟩ := at_T55 HR134_0.out x11_4 p135 q135; have hw135_1 := hx135_1; have hw135_0 := hx135_0; cases e135; replace hx135_0 := (HB.out.cell (World.block_lt_of_cell? w _ hx135_0)).trans hx135_0; replace hx135_1 := (HB.out.cell (World.block_lt_of_cell? w _ hx135_1)).trans hx135_1; replace p135 := eq_true p135; replace q135 := eq_true q135; have p137 : 0 ≤ ((ji27) : Int) := sq_dec; have q137 : (ji27) < ((rd_L7 l2_0 x9_2).length : Int) := sq_dec; obtain ⟨ad137, e137, hx137_0, hx137_1⟩ := at_T55 HR134_0.out (ji27) p137 q137; have hw137_1 := hx137_1; have hw137_0 := hx137_0; obtain rfl : ad135 = ad137 := (by injection e137); replace hx137_0 := (HB.out.cell (World.block_lt_of_cell? w _ hx137_0)).trans hx137_0; replace hx137_1 := (HB.out.cell (World.block_lt_of_cell? w _ hx137_1)).trans hx137_1; replace p137 := eq_true p137; replace q137 := eq_true q137; have p138 : 0 ≤ (x11_4 : Int) := sq_dec; have q138 : x11_4 < ((rd_L7 l2_0 x9_2).length : Int) := sq_dec; obtain ⟨ad138, e138, hx138_0, hx138_1⟩ := at_T55 HR134_0.out x11_4 p138 q138; have hw138_1 := hx138_1; have hw138_0 := hx138_0; obtain rfl : ad135 = ad138 := (by injection e138); replace hx138_0 := (HB.out.cell (World.block_lt_of_cell? w _ hx138_0)).trans hx138_0; replace hx138_1 := (HB.out.cell (World.block_lt_of_cell? w _ hx138_1)).trans hx138_1; replace p138 := eq_true p138; replace q138 := eq_true q138; have p140 : 0 ≤ (x11_4 : Int) := sq_dec; have q140 : x11_4 < ((rd_L7 l2_0 x9_2).length : Int) := sq_dec; obtain ⟨ad140, e140, hx140_0, hx140_1⟩ := at_T55 HR134_0.out x11_4 p140 q140; have hw140_1 := hx140_1; have hw140_0 := hx140_0; obtain rfl : ad135 = ad140 := (by injection e140); replace hx140_0 := (HB.out.cell (World.block_lt_of_cell? w _ hx140_0)).trans hx140_0; replace hx140_1 := (HB.out.cell (World.block_lt_of_cell? w _ hx140_1)).trans hx140_1; replace p140 := eq_true p140; replace q140 := eq_true q140; refine start_ (n := 34) (S := fun w' => w'.cell? ⟨gb132, 0, none⟩ = some (.slice (some ad134) l2_0.length c2_0) ∧ w'.cell? ⟨gb132, 1, none⟩ = some (.slice A2_1 l2_1.length c2_1) ∧ w'.cell? ⟨gb132, 2, none⟩ = some (.slice A2_2 l2_2.length c2_2) ∧ w'.cell? (ad135.add ((x11_4).toNat * 2)) = some (.int .i64 ((rd_T55 (rd_L7 l2_0 x9_2) x11_4).f0)) ∧ w'.cell? ⟨(ad135.add ((x11_4).toNat * 2)).block, (ad135.add ((x11_4).toNat * 2)).off + 1, none⟩ = some (.int .i64 ((rd_T55 (rd_L7 l2_0 x9_2) x11_4).f1)) ∧ w'.cell? (ad135.add (((ji27)).toNat * 2)) = some (.int .i64 ((rd_T55 (rd_L7 l2_0 x9_2) (ji27)).f0)) ∧ w'.cell? ⟨(ad135.add (((ji27)).toNat * 2)).block, (ad135.add (((ji27)).toNat * 2)).off + 1, none⟩ = some (.int .i64 ((rd_T55 (rd_L7 l2_0 x9_2) (ji27)).f1)) ∧ w'.cell? (ad135.add ((x11_4).toNat * 2)) = some (.int .i64 ((rd_T55 (rd_L7 l2_0 x9_2) x11_4).f0)) ∧ w'.cell? ⟨(ad135.add ((x11_4).toNat * 2)).block, (ad135.add ((x11_4).toNat * 2)).off + 1, none⟩ = some (.int .i64 ((rd_T55 (rd_L7 l2_0 x9_2) x11_4).f1)) ∧ w'.cell? (ad135.add ((x11_4).toNat * 2)) = some (.int .i64 ((rd_T55 (rd_L7 l2_0 x9_2) x11_4).f0)) ∧ w'.cell? ⟨(ad135.add ((x11_4).toNat * 2)).block, (ad135.add ((x11_4).toNat * 2)).off + 1, none⟩ = some (.int .i64 ((rd_T55 (rd_L7 l2_0 x9_2) x11_4).f1))) (ds := []) spec_SegOk.b0_ (by kernel_rfl) rfl rfl ⟨cl_ BK132 0, cl_ BK132 1, cl_ BK132 2, ((HB.out.cell (World.block_lt_of_cell? w _ hw135_0)).trans hw135_0), ((HB.out.cell (World.block_lt_of_cell? w _ hw135_1)).trans hw135_1), ((HB.out.cell (World.block_lt_of_cell? w _ hw137_0)).trans hw137_0), ((HB.out.cell (World.block_lt_of_cell? w _ hw137_1)).trans hw137_1), ((HB.out.cell (World.block_lt_of_cell? w _ hw138_0)).trans hw138_0), ((HB.out.cell (World.block_lt_of_cell? w _ hw138_1)).trans hw138_1), ((HB.out.cell (World.block_lt_of_cell? w _ hw140_0)).trans hw140_0), ((HB.out.cell (World.block_lt_of_cell? w _ hw140_1)).trans hw140_1)⟩ (fun hHeld => ?_); refine with_tabW spec_SegOk.tab15 spec_SegOk.bits15 (fun HT_ HW_ => ?_); generalize wr.drew = w38 at BK132 HB hx135_0 hx135_1 hx137_0 hx137_1 hx138_0 hx138_1 hx140_0 hx140_1 hHeld ⊢; refine pure_y 0 (some 71) spec_SegOk.b1_ (any_of HT_.out (by kernel_rfl)) (h := ?_)
                      refine pure_y 1 (some 72) spec_SegOk.b2_ (any_of HT_.out (by kernel_rfl)) (h := ?_)
                      refine pure_y 2 (some 73) spec_SegOk.b3_ (any_of HT_.out (by kernel_rfl)) (h := ?_)
                      refine pure_y 3 (some 74) spec_SegOk.b4_ (any_of HT_.out (by kernel_rfl)) (h := ?_)
                      refine take_y 4 (some 75) spec_SegOk.b5_ rfl (take_ofW HT_.out HW_.out (by kernel_rfl)) hHeld (Or.inl ⟨by rfl, (by rintro w' ⟨s0, s1, s2, s3, s4, s5, s6, s7, s8, s9, s10⟩; go_simp; with_reducible rfl)⟩) (h := ?_)
                      refine one_ (i := 5) (N := some 76) spec_SegOk.b6_ rfl rfl (one_of HT_.out (by kernel_rfl)) (by decide) (fun K hK => ?_); refine gs_ Tryd.func24 #[.int .i64 a0, .agg #[.int .i64 ((rd_T55 (rd_L7 l2_0 x9_2) x11_4).f0), .int .i64 ((rd_T55 (rd_L7 l2_0 x9_2) x11_4).f1)]] (h := ?_); with_reducible refine (spec_SymOk.calls a0 ((rd_T55 (rd_L7 l2_0 x9_2) x11_4).f0) ((rd_T55 (rd_L7 l2_0 x9_2) x11_4).f1) true _ A24.out).mono ?_
                      rintro e w39 ⟨rfl, hb⟩; refine ⟨_, rfl, ?_⟩; replace BK132 := bb_ BK132 hb; replace HB := hb1_ HB hb GE132
                      (try clear hb)
                      (try clear hb2)
                      (try clear hk)
                      (try clear hi)
                      refine hK.out _ _ ⟨cl_ BK132 0, cl_ BK132 1, cl_ BK132 2, ((HB.out.cell (World.block_lt_of_cell? w _ hw135_0)).trans hw135_0), ((HB.out.cell (World.block_lt_of_cell? w _ hw135_1)).trans hw135_1), ((HB.out.cell (World.block_lt_of_cell? w _ hw137_0)).trans hw137_0), ((HB.out.cell (World.block_lt_of_cell? w _ hw137_1)).trans hw137_1), ((HB.out.cell (World.block_lt_of_cell? w _ hw138_0)).trans hw138_0), ((HB.out.cell (World.block_lt_of_cell? w _ hw138_1)).trans hw138_1), ((HB.out.cell (World.block_lt_of_cell? w _ hw140_0)).trans hw140_0), ((HB.out.cell (World.block_lt_of_cell? w _ hw140_1)).trans hw140_1)⟩ (fun hHeld => ?_); clear hK K; refine norm_y 76 (h := ?_)
                      refine pure_y 6 (some 77) spec_SegOk.b7_ (any_of HT_.out (by kernel_rfl)) (h := ?_)
                      refine pure_y 7 (some 78) spec_SegOk.b8_ (any_of HT_.out (by kernel_rfl)) (h := ?_)
                      refine pure_y 8 (some 79) spec_SegOk.b9_ (any_of HT_.out (by kernel_rfl)) (h := ?_)
                      refine pure_y 9 (some 80) spec_SegOk.b10_ (any_of HT_.out (by kernel_rfl)) (h := ?_)
                      refine pure_y 10 (some 81) spec_SegOk.b11_ (any_of HT_.out (by kernel_rfl)) (h := ?_)
                      refine pure_y 11 (some 82) spec_SegOk.b12_ (any_of HT_.out (by kernel_rfl)) (h := ?_)
                      refine pure_y 12 (some 83) spec_SegOk.b13_ (any_of HT_.out (by kernel_rfl)) (h := ?_)
                      refine pure_y 13 (some 84) spec_SegOk.b14_ (any_of HT_.out (by kernel_rfl)) (h := ?_)
                      refine pure_y 14 (some 85) spec_SegOk.b15_ (any_of HT_.out (by kernel_rfl)) (h := ?_)
                      refine pure_y 16 (some 87) spec_SegOk.b16_ (any_of HT_.out (by kernel_rfl)) (h := ?_)
                      refine pure_y 17 (some 88) spec_SegOk.b18_ (any_of HT_.out (by kernel_rfl)) (h := ?_)
                      refine pure_y 18 (some 89) spec_SegOk.b20_ (any_of HT_.out (by kernel_rfl)) (h := ?_)
                      refine take_y 15 (some 86) spec_SegOk.b22_ rfl (take_ofW HT_.out HW_.out (by kernel_rfl)) hHeld (Or.inl ⟨by rfl, (by rintro w' ⟨s0, s1, s2, s3, s4, s5, s6, s7, s8, s9, s10⟩; go_simp; with_reducible rfl)⟩) (h := ?_)
                      refine take_y 19 (some 90) spec_SegOk.b23_ rfl (take_ofW HT_.out HW_.out (by kernel_rfl)) hHeld (Or.inl ⟨by rfl, (by rintro w' ⟨s0, s1, s2, s3, s4, s5, s6, s7, s8, s9, s10⟩; go_simp; with_reducible rfl)⟩) (h := ?_)
                      refine one_ (i := 20) (N := some 91) spec_SegOk.b24_ rfl rfl (one_of HT_.out (by kernel_rfl)) (by decide) (fun K hK => ?_); refine goes_ Tryd.func25 (by kernel_rfl) rfl #[.agg #[.int .i64 ((rd_T55 (rd_L7 l2_0 x9_2) (ji27)).f0), .int .i64 ((rd_T55 (rd_L7 l2_0 x9_2) (ji27)).f1)], .agg #[.int .i64 ((rd_T55 (rd_L7 l2_0 x9_2) x11_4).f0), .int .i64 ((rd_T55 (rd_L7 l2_0 x9_2) x11_4).f1)]] (by rfl) rfl rfl (by (try simp only [List.map_toArray, List.map_cons, List.map_nil]); first | done | (simp only [hji27]; rfl) | rfl | (simp only [List.length_drop, List.length_take]; rfl)) ?_; with_reducible refine (spec_SymLess.calls ((rd_T55 (rd_L7 l2_0 x9_2) (ji27)).f0) ((rd_T55 (rd_L7 l2_0 x9_2) (ji27)).f1) ((rd_T55 (rd_L7 l2_0 x9_2) x11_4).f0) ((rd_T55 (rd_L7 l2_0 x9_2) x11_4).f1) true _ A30.out).mono ?_
                      rintro e w40 ⟨rfl, hb⟩; refine ⟨_, rfl, ?_⟩; replace BK132 := bb_ BK132 hb; replace HB := hb1_ HB hb GE132
                      (try clear hb)
                      (try clear hb2)
                      (try clear hk)
                      (try clear hi)
                      refine hK.out _ _ ⟨cl_ BK132 0, cl_ BK132 1, cl_ BK132 2, ((HB.out.cell (World.block_lt_of_cell? w _ hw135_0)).trans hw135_0), ((HB.out.cell (World.block_lt_of_cell? w _ hw135_1)).trans hw135_1), ((HB.out.cell (World.block_lt_of_cell? w _ hw137_0)).trans hw137_0), ((HB.out.cell (World.block_lt_of_cell? w _ hw137_1)).trans hw137_1), ((HB.out.cell (World.block_lt_of_cell? w _ hw138_0)).trans hw138_0), ((HB.out.cell (World.block_lt_of_cell? w _ hw138_1)).trans hw138_1), ((HB.out.cell (World.block_lt_of_cell? w _ hw140_0)).trans hw140_0), ((HB.out.cell (World.block_lt_of_cell? w _ hw140_1)).trans hw140_1)⟩ (fun hHeld => ?_); clear hK K; refine norm_y 91 (h := ?_)
                      refine pure_y 21 (some 92) spec_SegOk.b25_ (any_of HT_.out (by kernel_rfl)) (h := ?_)
                      refine pure_y 22 (some 93) spec_SegOk.b26_ (any_of HT_.out (by kernel_rfl)) (h := ?_)
                      refine pure_y 23 (some 94) spec_SegOk.b27_ (any_of HT_.out (by kernel_rfl)) (h := ?_)
                      refine pure_y 24 (some 95) spec_SegOk.b28_ (any_of HT_.out (by kernel_rfl)) (h := ?_)
                      refine pure_y 26 (some 97) spec_SegOk.b29_ (any_of HT_.out (by kernel_rfl)) (h := ?_)
                      refine pure_y 27 (some 98) spec_SegOk.b31_ (any_of HT_.out (by kernel_rfl)) (h := ?_)
                      refine pure_y 28 (some 99) spec_SegOk.b33_ (any_of HT_.out (by kernel_rfl)) (h := ?_)
                      refine pure_y 31 (some 102) spec_SegOk.b35_ (any_of HT_.out (by kernel_rfl)) (h := ?_)
                      refine take_y 25 (some 96) spec_SegOk.b37_ rfl (take_ofW HT_.out HW_.out (by kernel_rfl)) hHeld (Or.inl ⟨by rfl, (by rintro w' ⟨s0, s1, s2, s3, s4, s5, s6, s7, s8, s9, s10⟩; go_simp; with_reducible rfl)⟩) (h := ?_)
                      refine take_y 29 (some 100) spec_SegOk.b39_ rfl (take_ofW HT_.out HW_.out (by kernel_rfl)) hHeld (Or.inl ⟨by rfl, (by rintro w' ⟨s0, s1, s2, s3, s4, s5, s6, s7, s8, s9, s10⟩; go_simp; with_reducible rfl)⟩) (h := ?_)
                      refine one_ (i := 30) (N := some 101) spec_SegOk.b41_ rfl rfl (one_of HT_.out (by kernel_rfl)) (by decide) (fun K hK => ?_); refine gs_ Tryd.func26 #[.agg #[.slice (some ad134) l2_0.length c2_0, .slice A2_1 l2_1.length c2_1, .slice A2_2 l2_2.length c2_2], .agg #[.int .i64 ((rd_T55 (rd_L7 l2_0 x9_2) x11_4).f0), .int .i64 ((rd_T55 (rd_L7 l2_0 x9_2) x11_4).f1)]] (h := ?_); with_reducible refine (spec_l10In.calls k4 _ _ l2_0 _ _ l2_1 _ _ l2_2 ((rd_T55 (rd_L7 l2_0 x9_2) x11_4).f0) ((rd_T55 (rd_L7 l2_0 x9_2) x11_4).f1) t141 _ ?side1 ?side2 ?side3 ?side4 ?side5 ?side6 A32.out).mono ?_
                      (case side1 => exact sq_c (Kd.C_below HR2_0.out HB.out))
                      (case side2 => exact HC2_0.out)
                      (case side3 => exact sq_c (Kd.C_below HR2_1.out HB.out))
                      (case side4 => exact HC2_1.out)
                      (case side5 => exact sq_c (Kd.C_below HR2_2.out HB.out))
                      (case side6 => exact HC2_2.out)
                      rintro e w41 ⟨rfl, hb⟩; refine ⟨_, rfl, ?_⟩; replace BK132 := bb_ BK132 hb; replace HB := hb1_ HB hb GE132
                      (try clear hb)
                      (try clear hb2)
                      (try clear hk)
                      (try clear hi)
                      refine hK.out _ _ ⟨cl_ BK132 0, cl_ BK132 1, cl_ BK132 2, ((HB.out.cell (World.block_lt_of_cell? w _ hw135_0)).trans hw135_0), ((HB.out.cell (World.block_lt_of_cell? w _ hw135_1)).trans hw135_1), ((HB.out.cell (World.block_lt_of_cell? w _ hw137_0)).trans hw137_0), ((HB.out.cell (World.block_lt_of_cell? w _ hw137_1)).trans hw137_1), ((HB.out.cell (World.block_lt_of_cell? w _ hw138_0)).trans hw138_0), ((HB.out.cell (World.block_lt_of_cell? w _ hw138_1)).trans hw138_1), ((HB.out.cell (World.block_lt_of_cell? w _ hw140_0)).trans hw140_0), ((HB.out.cell (World.block_lt_of_cell? w _ hw140_1)).trans hw140_1)⟩ (fun hHeld => ?_); clear hK K; refine norm_y 101 (h := ?_)
                      refine pure_y 32 (some 103) spec_SegOk.b42_ (any_of HT_.out (by kernel_rfl)) (h := ?_)
                      refine pure_y 33 (some 104) spec_SegOk.b43_ (any_of HT_.out (by kernel_rfl)) (h := ?_)
                      refine done_ (done_of HT_.out (by kernel_rfl)) ?_
                      try go_wp2
                      go_ret
                      exact ⟨by first | rfl | (simp [errW_none, errW_some] <;> rfl) | (simp only [← hji27]; first | rfl | (simp [errW_none, errW_some] <;> rfl)) | (simp [*, errW_none, errW_some] <;> rfl), sq_below1 HB.out GE132.out⟩
                    ·
                     replace c31 := Bool.eq_false_iff.mpr c31; subst c31; have H1 := ifn_ H
                     clear H; have H := H1; clear H1; obtain rfl := Option.some.inj H
                     try go_wp2
                     replace HB := hd_ HB; have p135 : 0 ≤ (x11_4 : Int) := sq_dec; have q135 : x11_4 < ((rd_L7 l2_0 x9_2).length : Int) := sq_dec; obtain ⟨ad135, e135, hx135_0, hx135_1⟩ := at_T55 HR134_0.out x11_4 p135 q135; have hw135_1 := hx135_1; have hw135_0 := hx135_0; cases e135; replace hx135_0 := (HB.out.cell (World.block_lt_of_cell? w _ hx135_0)).trans hx135_0; replace hx135_1 := (HB.out.cell (World.block_lt_of_cell? w _ hx135_1)).trans hx135_1; replace p135 := eq_true p135; replace q135 := eq_true q135; have p137 : 0 ≤ ((ji27) : Int) := sq_dec; have q137 : (ji27) < ((rd_L7 l2_0 x9_2).length : Int) := sq_dec; obtain ⟨ad137, e137, hx137_0, hx137_1⟩ := at_T55 HR134_0.out (ji27) p137 q137; have hw137_1 := hx137_1; have hw137_0 := hx137_0; obtain rfl : ad135 = ad137 := (by injection e137); replace hx137_0 := (HB.out.cell (World.block_lt_of_cell? w _ hx137_0)).trans hx137_0; replace hx137_1 := (HB.out.cell (World.block_lt_of_cell? w _ hx137_1)).trans hx137_1; replace p137 := eq_true p137; replace q137 := eq_true q137; have p138 : 0 ≤ (x11_4 : Int) := sq_dec; have q138 : x11_4 < ((rd_L7 l2_0 x9_2).length : Int) := sq_dec; obtain ⟨ad138, e138, hx138_0, hx138_1⟩ := at_T55 HR134_0.out x11_4 p138 q138; have hw138_1 := hx138_1; have hw138_0 := hx138_0; obtain rfl : ad135 = ad138 := (by injection e138); replace hx138_0 := (HB.out.cell (World.block_lt_of_cell? w _ hx138_0)).trans hx138_0; replace hx138_1 := (HB.out.cell (World.block_lt_of_cell? w _ hx138_1)).trans hx138_1; replace p138 := eq_true p138; replace q138 := eq_true q138; refine start_ (n := 34) (S := fun w' => w'.cell? (ad135.add ((x11_4).toNat * 2)) = some (.int .i64 ((rd_T55 (rd_L7 l2_0 x9_2) x11_4).f0)) ∧ w'.cell? ⟨(ad135.add ((x11_4).toNat * 2)).block, (ad135.add ((x11_4).toNat * 2)).off + 1, none⟩ = some (.int .i64 ((rd_T55 (rd_L7 l2_0 x9_2) x11_4).f1)) ∧ w'.cell? (ad135.add (((ji27)).toNat * 2)) = some (.int .i64 ((rd_T55 (rd_L7 l2_0 x9_2) (ji27)).f0)) ∧ w'.cell? ⟨(ad135.add (((ji27)).toNat * 2)).block, (ad135.add (((ji27)).toNat * 2)).off + 1, none⟩ = some (.int .i64 ((rd_T55 (rd_L7 l2_0 x9_2) (ji27)).f1)) ∧ w'.cell? (ad135.add ((x11_4).toNat * 2)) = some (.int .i64 ((rd_T55 (rd_L7 l2_0 x9_2) x11_4).f0)) ∧ w'.cell? ⟨(ad135.add ((x11_4).toNat * 2)).block, (ad135.add ((x11_4).toNat * 2)).off + 1, none⟩ = some (.int .i64 ((rd_T55 (rd_L7 l2_0 x9_2) x11_4).f1))) (ds := []) spec_SegOk.b0_ (by kernel_rfl) rfl rfl ⟨((HB.out.cell (World.block_lt_of_cell? w _ hw135_0)).trans hw135_0), ((HB.out.cell (World.block_lt_of_cell? w _ hw135_1)).trans hw135_1), ((HB.out.cell (World.block_lt_of_cell? w _ hw137_0)).trans hw137_0), ((HB.out.cell (World.block_lt_of_cell? w _ hw137_1)).trans hw137_1), ((HB.out.cell (World.block_lt_of_cell? w _ hw138_0)).trans hw138_0), ((HB.out.cell (World.block_lt_of_cell? w _ hw138_1)).trans hw138_1)⟩ (fun hHeld => ?_); refine with_tabW spec_SegOk.tab15 spec_SegOk.bits15 (fun HT_ HW_ => ?_); generalize wr.drew = w42 at HB hx135_0 hx135_1 hx137_0 hx137_1 hx138_0 hx138_1 hHeld ⊢; refine pure_y 0 (some 71) spec_SegOk.b1_ (any_of HT_.out (by kernel_rfl)) (h := ?_)
                     refine pure_y 1 (some 72) spec_SegOk.b2_ (any_of HT_.out (by kernel_rfl)) (h := ?_)
                     refine pure_y 2 (some 73) spec_SegOk.b3_ (any_of HT_.out (by kernel_rfl)) (h := ?_)
                     refine pure_y 3 (some 74) spec_SegOk.b4_ (any_of HT_.out (by kernel_rfl)) (h := ?_)
                     refine take_y 4 (some 75) spec_SegOk.b5_ rfl (take_ofW HT_.out HW_.out (by kernel_rfl)) hHeld (Or.inl ⟨by rfl, (by rintro w' ⟨s0, s1, s2, s3, s4, s5⟩; go_simp; with_reducible rfl)⟩) (h := ?_)
                     refine one_ (i := 5) (N := some 76) spec_SegOk.b6_ rfl rfl (one_of HT_.out (by kernel_rfl)) (by decide) (fun K hK => ?_); refine gs_ Tryd.func24 #[.int .i64 a0, .agg #[.int .i64 ((rd_T55 (rd_L7 l2_0 x9_2) x11_4).f0), .int .i64 ((rd_T55 (rd_L7 l2_0 x9_2) x11_4).f1)]] (h := ?_); with_reducible refine (spec_SymOk.calls a0 ((rd_T55 (rd_L7 l2_0 x9_2) x11_4).f0) ((rd_T55 (rd_L7 l2_0 x9_2) x11_4).f1) true _ A24.out).mono ?_
                     rintro e w43 ⟨rfl, hb⟩; refine ⟨_, rfl, ?_⟩; replace HB := hb_ HB hb
                     (try clear hb)
                     (try clear hb2)
                     (try clear hk)
                     (try clear hi)
                     refine hK.out _ _ ⟨((HB.out.cell (World.block_lt_of_cell? w _ hw135_0)).trans hw135_0), ((HB.out.cell (World.block_lt_of_cell? w _ hw135_1)).trans hw135_1), ((HB.out.cell (World.block_lt_of_cell? w _ hw137_0)).trans hw137_0), ((HB.out.cell (World.block_lt_of_cell? w _ hw137_1)).trans hw137_1), ((HB.out.cell (World.block_lt_of_cell? w _ hw138_0)).trans hw138_0), ((HB.out.cell (World.block_lt_of_cell? w _ hw138_1)).trans hw138_1)⟩ (fun hHeld => ?_); clear hK K; refine norm_y 76 (h := ?_)
                     refine pure_y 6 (some 77) spec_SegOk.b7_ (any_of HT_.out (by kernel_rfl)) (h := ?_)
                     refine pure_y 7 (some 78) spec_SegOk.b8_ (any_of HT_.out (by kernel_rfl)) (h := ?_)
                     refine pure_y 8 (some 79) spec_SegOk.b9_ (any_of HT_.out (by kernel_rfl)) (h := ?_)
                     refine pure_y 9 (some 80) spec_SegOk.b10_ (any_of HT_.out (by kernel_rfl)) (h := ?_)
                     refine pure_y 10 (some 81) spec_SegOk.b11_ (any_of HT_.out (by kernel_rfl)) (h := ?_)
                     refine pure_y 11 (some 82) spec_SegOk.b12_ (any_of HT_.out (by kernel_rfl)) (h := ?_)
                     refine pure_y 12 (some 83) spec_SegOk.b13_ (any_of HT_.out (by kernel_rfl)) (h := ?_)
                     refine pure_y 13 (some 84) spec_SegOk.b14_ (any_of HT_.out (by kernel_rfl)) (h := ?_)
                     refine pure_y 14 (some 85) spec_SegOk.b15_ (any_of HT_.out (by kernel_rfl)) (h := ?_)
                     refine pure_y 16 (some 87) spec_SegOk.b16_ (any_of HT_.out (by kernel_rfl)) (h := ?_)
                     refine pure_y 17 (some 88) spec_SegOk.b18_ (any_of HT_.out (by kernel_rfl)) (h := ?_)
                     refine pure_y 18 (some 89) spec_SegOk.b20_ (any_of HT_.out (by kernel_rfl)) (h := ?_)
                     refine take_y 15 (some 86) spec_SegOk.b22_ rfl (take_ofW HT_.out HW_.out (by kernel_rfl)) hHeld (Or.inl ⟨by rfl, (by rintro w' ⟨s0, s1, s2, s3, s4, s5⟩; go_simp; with_reducible rfl)⟩) (h := ?_)
                     refine take_y 19 (some 90) spec_SegOk.b23_ rfl (take_ofW HT_.out HW_.out (by kernel_rfl)) hHeld (Or.inl ⟨by rfl, (by rintro w' ⟨s0, s1, s2, s3, s4, s5⟩; go_simp; with_reducible rfl)⟩) (h := ?_)
                     refine one_ (i := 20) (N := some 91) spec_SegOk.b24_ rfl rfl (one_of HT_.out (by kernel_rfl)) (by decide) (fun K hK => ?_); refine goes_ Tryd.func25 (by kernel_rfl) rfl #[.agg #[.int .i64 ((rd_T55 (rd_L7 l2_0 x9_2) (ji27)).f0), .int .i64 ((rd_T55 (rd_L7 l2_0 x9_2) (ji27)).f1)], .agg #[.int .i64 ((rd_T55 (rd_L7 l2_0 x9_2) x11_4).f0), .int .i64 ((rd_T55 (rd_L7 l2_0 x9_2) x11_4).f1)]] (by rfl) rfl rfl (by (try simp only [List.map_toArray, List.map_cons, List.map_nil]); first | done | (simp only [hji27]; rfl) | rfl | (simp only [List.length_drop, List.length_take]; rfl)) ?_; with_reducible refine (spec_SymLess.calls ((rd_T55 (rd_L7 l2_0 x9_2) (ji27)).f0) ((rd_T55 (rd_L7 l2_0 x9_2) (ji27)).f1) ((rd_T55 (rd_L7 l2_0 x9_2) x11_4).f0) ((rd_T55 (rd_L7 l2_0 x9_2) x11_4).f1) false _ A30.out).mono ?_
                     rintro e w44 ⟨rfl, hb⟩; refine ⟨_, rfl, ?_⟩; replace HB := hb_ HB hb
                     (try clear hb)
                     (try clear hb2)
                     (try clear hk)
                     (try clear hi)
                     refine hK.out _ _ ⟨((HB.out.cell (World.block_lt_of_cell? w _ hw135_0)).trans hw135_0), ((HB.out.cell (World.block_lt_of_cell? w _ hw135_1)).trans hw135_1), ((HB.out.cell (World.block_lt_of_cell? w _ hw137_0)).trans hw137_0), ((HB.out.cell (World.block_lt_of_cell? w _ hw137_1)).trans hw137_1), ((HB.out.cell (World.block_lt_of_cell? w _ hw138_0)).trans hw138_0), ((HB.out.cell (World.block_lt_of_cell? w _ hw138_1)).trans hw138_1)⟩ (fun hHeld => ?_); clear hK K; refine norm_y 91 (h := ?_)
                     refine pure_y 21 (some 92) spec_SegOk.b25_ (any_of HT_.out (by kernel_rfl)) (h := ?_)
                     refine pure_y 22 (some 93) spec_SegOk.b26_ (any_of HT_.out (by kernel_rfl)) (h := ?_)
                     refine pure_y 23 (some 94) spec_SegOk.b27_ (any_of HT_.out (by kernel_rfl)) (h := ?_)
                     refine pure_y 24 (some 95) spec_SegOk.b28_ (any_of HT_.out (by kernel_rfl)) (h := ?_)
                     refine pure_n 25 (some 96) spec_SegOk.b30_ (any_of HT_.out (by kernel_rfl)) (h := ?_)
                     refine pure_n 26 (some 97) spec_SegOk.b32_ (any_of HT_.out (by kernel_rfl)) (h := ?_)
                     refine pure_n 27 (some 98) spec_SegOk.b34_ (any_of HT_.out (by kernel_rfl)) (h := ?_)
                     refine pure_n 28 (some 99) spec_SegOk.b36_ (any_of HT_.out (by kernel_rfl)) (h := ?_)
                     refine pure_n 29 (some 100) spec_SegOk.b38_ (any_of HT_.out (by kernel_rfl)) (h := ?_)
                     refine pure_n 30 (some 101) spec_SegOk.b40_ (any_of HT_.out (by kernel_rfl)) (h := ?_)
                     refine pure_n 31 (some 102) spec_SegOk.b41_ (any_of HT_.out (by kernel_rfl)) (h := ?_)
                     refine pure_n 32 (some 103) spec_SegOk.b42_ (any_of HT_.out (by kernel_rfl)) (h := ?_)
                     refine pure_y 33 (some 104) spec_SegOk.b43_ (any_of HT_.out (by kernel_rfl)) (h := ?_)
                     refine done_ (done_of HT_.out (by kernel_rfl)) ?_
                     try go_wp2
                     go_ret
                     exact ⟨by first | rfl | (simp [errW_none, errW_some] <;> rfl) | (simp only [← hji27]; first | rfl | (simp [errW_none, errW_some] <;> rfl)) | (simp [*, errW_none, errW_some] <;> rfl), sq_below HB.out⟩
                   ·
                    rw [if_neg c29] at H; exact absurd H (by simp)
                  ·
                   rw [if_neg c28] at H; exact absurd H (by simp)
                 ·
                  rw [if_neg c26] at H; have c26b0 : decide (0 < x11_4) = false := decide_eq_false c26; clear c26; replace H := Option.bind_eq_some_iff.mp H; obtain ⟨t143, A450, H⟩ := H; (try dsimp only at H); have A45 := Aside0.mk A450; clear A450
                  by_cases c46 : t143 = x9_2
                  ·
                   rw [if_pos c46] at H; have c46b0 : (t143 == x9_2) = true := beq_iff_eq.mpr c46; have c46b1 : (t143 != x9_2) = false := bne_eq_false_iff_eq.mpr c46; clear c46; have H' := Aside0.mk H; clear H
                   try go_wp2
                   replace BK132 := bd_ BK132; replace HB := hd_ HB; have p135 : 0 ≤ (x11_4 : Int) := sq_dec; have q135 : x11_4 < ((rd_L7 l2_0 x9_2).length : Int) := sq_dec; obtain ⟨ad135, e135, hx135_0, hx135_1⟩ := at_T55 HR134_0.out x11_4 p135 q135; have hw135_1 := hx135_1; have hw135_0 := hx135_0; cases e135; replace hx135_0 := (HB.out.cell (World.block_lt_of_cell? w _ hx135_0)).trans hx135_0; replace hx135_1 := (HB.out.cell (World.block_lt_of_cell? w _ hx135_1)).trans hx135_1; replace p135 := eq_true p135; replace q135 := eq_true q135; have p142 : 0 ≤ (x11_4 : Int) := sq_dec; have q142 : x11_4 < ((rd_L7 l2_0 x9_2).length : Int) := sq_dec; obtain ⟨ad142, e142, hx142_0, hx142_1⟩ := at_T55 HR134_0.out x11_4 p142 q142; have hw142_1 := hx142_1; have hw142_0 := hx142_0; obtain rfl : ad135 = ad142 := (by injection e142); replace hx142_0 := (HB.out.cell (World.block_lt_of_cell? w _ hx142_0)).trans hx142_0; replace hx142_1 := (HB.out.cell (World.block_lt_of_cell? w _ hx142_1)).trans hx142_1; replace p142 := eq_true p142; replace q142 := eq_true q142; refine start_ (n := 34) (S := fun w' => w'.cell? ⟨gb132, 0, none⟩ = some (.slice (some ad134) l2_0.length c2_0) ∧ w'.cell? ⟨gb132, 1, none⟩ = some (.slice A2_1 l2_1.length c2_1) ∧ w'.cell? ⟨gb132, 2, none⟩ = some (.slice A2_2 l2_2.length c2_2) ∧ w'.cell? (ad135.add ((x11_4).toNat * 2)) = some (.int .i64 ((rd_T55 (rd_L7 l2_0 x9_2) x11_4).f0)) ∧ w'.cell? ⟨(ad135.add ((x11_4).toNat * 2)).block, (ad135.add ((x11_4).toNat * 2)).off + 1, none⟩ = some (.int .i64 ((rd_T55 (rd_L7 l2_0 x9_2) x11_4).f1)) ∧ w'.cell? (ad135.add ((x11_4).toNat * 2)) = some (.int .i64 ((rd_T55 (rd_L7 l2_0 x9_2) x11_4).f0)) ∧ w'.cell? ⟨(ad135.add ((x11_4).toNat * 2)).block, (ad135.add ((x11_4).toNat * 2)).off + 1, none⟩ = some (.int .i64 ((rd_T55 (rd_L7 l2_0 x9_2) x11_4).f1))) (ds := []) spec_SegOk.b0_ (by kernel_rfl) rfl rfl ⟨cl_ BK132 0, cl_ BK132 1, cl_ BK132 2, ((HB.out.cell (World.block_lt_of_cell? w _ hw135_0)).trans hw135_0), ((HB.out.cell (World.block_lt_of_cell? w _ hw135_1)).trans hw135_1), ((HB.out.cell (World.block_lt_of_cell? w _ hw142_0)).trans hw142_0), ((HB.out.cell (World.block_lt_of_cell? w _ hw142_1)).trans hw142_1)⟩ (fun hHeld => ?_); refine with_tabW spec_SegOk.tab15 spec_SegOk.bits15 (fun HT_ HW_ => ?_); generalize wr.drew = w47 at BK132 HB hx135_0 hx135_1 hx142_0 hx142_1 hHeld ⊢; refine pure_y 0 (some 71) spec_SegOk.b1_ (any_of HT_.out (by kernel_rfl)) (h := ?_)
                   refine pure_y 1 (some 72) spec_SegOk.b2_ (any_of HT_.out (by kernel_rfl)) (h := ?_)
                   refine pure_y 2 (some 73) spec_SegOk.b3_ (any_of HT_.out (by kernel_rfl)) (h := ?_)
                   refine pure_y 3 (some 74) spec_SegOk.b4_ (any_of HT_.out (by kernel_rfl)) (h := ?_)
                   refine take_y 4 (some 75) spec_SegOk.b5_ rfl (take_ofW HT_.out HW_.out (by kernel_rfl)) hHeld (Or.inl ⟨by rfl, (by rintro w' ⟨s0, s1, s2, s3, s4, s5, s6⟩; go_simp; with_reducible rfl)⟩) (h := ?_)
                   refine one_ (i := 5) (N := some 76) spec_SegOk.b6_ rfl rfl (one_of HT_.out (by kernel_rfl)) (by decide) (fun K hK => ?_); refine gs_ Tryd.func24 #[.int .i64 a0, .agg #[.int .i64 ((rd_T55 (rd_L7 l2_0 x9_2) x11_4).f0), .int .i64 ((rd_T55 (rd_L7 l2_0 x9_2) x11_4).f1)]] (h := ?_); with_reducible refine (spec_SymOk.calls a0 ((rd_T55 (rd_L7 l2_0 x9_2) x11_4).f0) ((rd_T55 (rd_L7 l2_0 x9_2) x11_4).f1) true _ A24.out).mono ?_
                   rintro e w48 ⟨rfl, hb⟩; refine ⟨_, rfl, ?_⟩; replace BK132 := bb_ BK132 hb; replace HB := hb1_ HB hb GE132
                   (try clear hb)
                   (try clear hb2)
                   (try clear hk)
                   (try clear hi)
                   refine hK.out _ _ ⟨cl_ BK132 0, cl_ BK132 1, cl_ BK132 2, ((HB.out.cell (World.block_lt_of_cell? w _ hw135_0)).trans hw135_0), ((HB.out.cell (World.block_lt_of_cell? w _ hw135_1)).trans hw135_1), ((HB.out.cell (World.block_lt_of_cell? w _ hw142_0)).trans hw142_0), ((HB.out.cell (World.block_lt_of_cell? w _ hw142_1)).trans hw142_1)⟩ (fun hHeld => ?_); clear hK K; refine norm_y 76 (h := ?_)
                   refine pure_y 6 (some 77) spec_SegOk.b7_ (any_of HT_.out (by kernel_rfl)) (h := ?_)
                   refine pure_y 7 (some 78) spec_SegOk.b8_ (any_of HT_.out (by kernel_rfl)) (h := ?_)
                   refine pure_y 8 (some 79) spec_SegOk.b9_ (any_of HT_.out (by kernel_rfl)) (h := ?_)
                   refine pure_y 9 (some 80) spec_SegOk.b10_ (any_of HT_.out (by kernel_rfl)) (h := ?_)
                   refine pure_y 10 (some 81) spec_SegOk.b11_ (any_of HT_.out (by kernel_rfl)) (h := ?_)
                   refine pure_n 11 (some 82) spec_SegOk.b12_ (any_of HT_.out (by kernel_rfl)) (h := ?_)
                   refine pure_n 12 (some 83) spec_SegOk.b13_ (any_of HT_.out (by kernel_rfl)) (h := ?_)
                   refine pure_n 13 (some 84) spec_SegOk.b14_ (any_of HT_.out (by kernel_rfl)) (h := ?_)
                   refine pure_n 14 (some 85) spec_SegOk.b15_ (any_of HT_.out (by kernel_rfl)) (h := ?_)
                   refine pure_n 15 (some 86) spec_SegOk.b17_ (any_of HT_.out (by kernel_rfl)) (h := ?_)
                   refine pure_n 16 (some 87) spec_SegOk.b19_ (any_of HT_.out (by kernel_rfl)) (h := ?_)
                   refine pure_n 17 (some 88) spec_SegOk.b21_ (any_of HT_.out (by kernel_rfl)) (h := ?_)
                   refine pure_n 18 (some 89) spec_SegOk.b22_ (any_of HT_.out (by kernel_rfl)) (h := ?_)
                   refine pure_n 19 (some 90) spec_SegOk.b23_ (any_of HT_.out (by kernel_rfl)) (h := ?_)
                   refine pure_n 20 (some 91) spec_SegOk.b24_ (any_of HT_.out (by kernel_rfl)) (h := ?_)
                   refine pure_n 21 (some 92) spec_SegOk.b25_ (any_of HT_.out (by kernel_rfl)) (h := ?_)
                   refine pure_y 22 (some 93) spec_SegOk.b26_ (any_of HT_.out (by kernel_rfl)) (h := ?_)
                   refine pure_y 23 (some 94) spec_SegOk.b27_ (any_of HT_.out (by kernel_rfl)) (h := ?_)
                   refine pure_y 24 (some 95) spec_SegOk.b28_ (any_of HT_.out (by kernel_rfl)) (h := ?_)
                   refine pure_y 26 (some 97) spec_SegOk.b29_ (any_of HT_.out (by kernel_rfl)) (h := ?_)
                   refine pure_y 27 (some 98) spec_SegOk.b31_ (any_of HT_.out (by kernel_rfl)) (h := ?_)
                   refine pure_y 28 (some 99) spec_SegOk.b33_ (any_of HT_.out (by kernel_rfl)) (h := ?_)
                   refine pure_y 31 (some 102) spec_SegOk.b35_ (any_of HT_.out (by kernel_rfl)) (h := ?_)
                   refine take_y 25 (some 96) spec_SegOk.b37_ rfl (take_ofW HT_.out HW_.out (by kernel_rfl)) hHeld (Or.inl ⟨by rfl, (by rintro w' ⟨s0, s1, s2, s3, s4, s5, s6⟩; go_simp; with_reducible rfl)⟩) (h := ?_)
                   refine take_y 29 (some 100) spec_SegOk.b39_ rfl (take_ofW HT_.out HW_.out (by kernel_rfl)) hHeld (Or.inl ⟨by rfl, (by rintro w' ⟨s0, s1, s2, s3, s4, s5, s6⟩; go_simp; with_reducible rfl)⟩) (h := ?_)
                   refine one_ (i := 30) (N := some 101) spec_SegOk.b41_ rfl rfl (one_of HT_.out (by kernel_rfl)) (by decide) (fun K hK => ?_); refine gs_ Tryd.func26 #[.agg #[.slice (some ad134) l2_0.length c2_0, .slice A2_1 l2_1.length c2_1, .slice A2_2 l2_2.length c2_2], .agg #[.int .i64 ((rd_T55 (rd_L7 l2_0 x9_2) x11_4).f0), .int .i64 ((rd_T55 (rd_L7 l2_0 x9_2) x11_4).f1)]] (h := ?_); with_reducible refine (spec_l10In.calls k4 _ _ l2_0 _ _ l2_1 _ _ l2_2 ((rd_T55 (rd_L7 l2_0 x9_2) x11_4).f0) ((rd_T55 (rd_L7 l2_0 x9_2) x11_4).f1) t143 _ ?side1 ?side2 ?side3 ?side4 ?side5 ?side6 A45.out).mono ?_
                   (case side1 => exact sq_c (Kd.C_below HR2_0.out HB.out))
                   (case side2 => exact HC2_0.out)
                   (case side3 => exact sq_c (Kd.C_below HR2_1.out HB.out))
                   (case side4 => exact HC2_1.out)
                   (case side5 => exact sq_c (Kd.C_below HR2_2.out HB.out))
                   (case side6 => exact HC2_2.out)
                   rintro e w49 ⟨rfl, hb⟩; refine ⟨_, rfl, ?_⟩; replace BK132 := bb_ BK132 hb; replace HB := hb1_ HB hb GE132
                   (try clear hb)
                   (try clear hb2)
                   (try clear hk)
                   (try clear hi)
                   refine hK.out _ _ ⟨cl_ BK132 0, cl_ BK132 1, cl_ BK132 2, ((HB.out.cell (World.block_lt_of_cell? w _ hw135_0)).trans hw135_0), ((HB.out.cell (World.block_lt_of_cell? w _ hw135_1)).trans hw135_1), ((HB.out.cell (World.block_lt_of_cell? w _ hw142_0)).trans hw142_0), ((HB.out.cell (World.block_lt_of_cell? w _ hw142_1)).trans hw142_1)⟩ (fun hHeld => ?_); clear hK K; refine norm_y 101 (h := ?_)
                   refine pure_y 32 (some 103) spec_SegOk.b42_ (any_of HT_.out (by kernel_rfl)) (h := ?_)
                   refine pure_y 33 (some 104) spec_SegOk.b43_ (any_of HT_.out (by kernel_rfl)) (h := ?_)
                   refine done_ (done_of HT_.out (by kernel_rfl)) ?_
                   try go_wp2
                   go_roundg k4
                   case measure => have := HJ3.out; have := HK2.out; have := HJ17.out; have := HK4.out; omega
                   case rel => exact ⟨(wrap64 (x11_4 + 1)), (by first | rfl | (simp; done) | (simp [*]; done)), H', ⟨by have := HJ3.out; have := HK2.out; have := HJ17.out; have := HK4.out; omega⟩, bk_ BK132, ⟨sq_below1 HB.out GE132.out⟩⟩
                  ·
                   rw [if_neg c46] at H; have c46b0 : (t143 == x9_2) = false := beq_eq_false_iff_ne.mpr c46; have c46b1 : (t143 != x9_2) = true := bne_iff_ne.mpr c46; obtain rfl := Option.some.inj H
                   try go_wp2
                   replace BK132 := bd_ BK132; replace HB := hd_ HB; have p135 : 0 ≤ (x11_4 : Int) := sq_dec; have q135 : x11_4 < ((rd_L7 l2_0 x9_2).length : Int) := sq_dec; obtain ⟨ad135, e135, hx135_0, hx135_1⟩ := at_T55 HR134_0.out x11_4 p135 q135; have hw135_1 := hx135_1; have hw135_0 := hx135_0; cases e135; replace hx135_0 := (HB.out.cell (World.block_lt_of_cell? w _ hx135_0)).trans hx135_0; replace hx135_1 := (HB.out.cell (World.block_lt_of_cell? w _ hx135_1)).trans hx135_1; replace p135 := eq_true p135; replace q135 := eq_true q135; have p142 : 0 ≤ (x11_4 : Int) := sq_dec; have q142 : x11_4 < ((rd_L7 l2_0 x9_2).length : Int) := sq_dec; obtain ⟨ad142, e142, hx142_0, hx142_1⟩ := at_T55 HR134_0.out x11_4 p142 q142; have hw142_1 := hx142_1; have hw142_0 := hx142_0; obtain rfl : ad135 = ad142 := (by injection e142); replace hx142_0 := (HB.out.cell (World.block_lt_of_cell? w _ hx142_0)).trans hx142_0; replace hx142_1 := (HB.out.cell (World.block_lt_of_cell? w _ hx142_1)).trans hx142_1; replace p142 := eq_true p142; replace q142 := eq_true q142; refine start_ (n := 34) (S := fun w' => w'.cell? ⟨gb132, 0, none⟩ = some (.slice (some ad134) l2_0.length c2_0) ∧ w'.cell? ⟨gb132, 1, none⟩ = some (.slice A2_1 l2_1.length c2_1) ∧ w'.cell? ⟨gb132, 2, none⟩ = some (.slice A2_2 l2_2.length c2_2) ∧ w'.cell? (ad135.add ((x11_4).toNat * 2)) = some (.int .i64 ((rd_T55 (rd_L7 l2_0 x9_2) x11_4).f0)) ∧ w'.cell? ⟨(ad135.add ((x11_4).toNat * 2)).block, (ad135.add ((x11_4).toNat * 2)).off + 1, none⟩ = some (.int .i64 ((rd_T55 (rd_L7 l2_0 x9_2) x11_4).f1)) ∧ w'.cell? (ad135.add ((x11_4).toNat * 2)) = some (.int .i64 ((rd_T55 (rd_L7 l2_0 x9_2) x11_4).f0)) ∧ w'.cell? ⟨(ad135.add ((x11_4).toNat * 2)).block, (ad135.add ((x11_4).toNat * 2)).off + 1, none⟩ = some (.int .i64 ((rd_T55 (rd_L7 l2_0 x9_2) x11_4).f1))) (ds := []) spec_SegOk.b0_ (by kernel_rfl) rfl rfl ⟨cl_ BK132 0, cl_ BK132 1, cl_ BK132 2, ((HB.out.cell (World.block_lt_of_cell? w _ hw135_0)).trans hw135_0), ((HB.out.cell (World.block_lt_of_cell? w _ hw135_1)).trans hw135_1), ((HB.out.cell (World.block_lt_of_cell? w _ hw142_0)).trans hw142_0), ((HB.out.cell (World.block_lt_of_cell? w _ hw142_1)).trans hw142_1)⟩ (fun hHeld => ?_); refine with_tabW spec_SegOk.tab15 spec_SegOk.bits15 (fun HT_ HW_ => ?_); generalize wr.drew = w50 at BK132 HB hx135_0 hx135_1 hx142_0 hx142_1 hHeld ⊢; refine pure_y 0 (some 71) spec_SegOk.b1_ (any_of HT_.out (by kernel_rfl)) (h := ?_)
                   refine pure_y 1 (some 72) spec_SegOk.b2_ (any_of HT_.out (by kernel_rfl)) (h := ?_)
                   refine pure_y 2 (some 73) spec_SegOk.b3_ (any_of HT_.out (by kernel_rfl)) (h := ?_)
                   refine pure_y 3 (some 74) spec_SegOk.b4_ (any_of HT_.out (by kernel_rfl)) (h := ?_)
                   refine take_y 4 (some 75) spec_SegOk.b5_ rfl (take_ofW HT_.out HW_.out (by kernel_rfl)) hHeld (Or.inl ⟨by rfl, (by rintro w' ⟨s0, s1, s2, s3, s4, s5, s6⟩; go_simp; with_reducible rfl)⟩) (h := ?_)
                   refine one_ (i := 5) (N := some 76) spec_SegOk.b6_ rfl rfl (one_of HT_.out (by kernel_rfl)) (by decide) (fun K hK => ?_); refine gs_ Tryd.func24 #[.int .i64 a0, .agg #[.int .i64 ((rd_T55 (rd_L7 l2_0 x9_2) x11_4).f0), .int .i64 ((rd_T55 (rd_L7 l2_0 x9_2) x11_4).f1)]] (h := ?_); with_reducible refine (spec_SymOk.calls a0 ((rd_T55 (rd_L7 l2_0 x9_2) x11_4).f0) ((rd_T55 (rd_L7 l2_0 x9_2) x11_4).f1) true _ A24.out).mono ?_
                   rintro e w51 ⟨rfl, hb⟩; refine ⟨_, rfl, ?_⟩; replace BK132 := bb_ BK132 hb; replace HB := hb1_ HB hb GE132
                   (try clear hb)
                   (try clear hb2)
                   (try clear hk)
                   (try clear hi)
                   refine hK.out _ _ ⟨cl_ BK132 0, cl_ BK132 1, cl_ BK132 2, ((HB.out.cell (World.block_lt_of_cell? w _ hw135_0)).trans hw135_0), ((HB.out.cell (World.block_lt_of_cell? w _ hw135_1)).trans hw135_1), ((HB.out.cell (World.block_lt_of_cell? w _ hw142_0)).trans hw142_0), ((HB.out.cell (World.block_lt_of_cell? w _ hw142_1)).trans hw142_1)⟩ (fun hHeld => ?_); clear hK K; refine norm_y 76 (h := ?_)
                   refine pure_y 6 (some 77) spec_SegOk.b7_ (any_of HT_.out (by kernel_rfl)) (h := ?_)
                   refine pure_y 7 (some 78) spec_SegOk.b8_ (any_of HT_.out (by kernel_rfl)) (h := ?_)
                   refine pure_y 8 (some 79) spec_SegOk.b9_ (any_of HT_.out (by kernel_rfl)) (h := ?_)
                   refine pure_y 9 (some 80) spec_SegOk.b10_ (any_of HT_.out (by kernel_rfl)) (h := ?_)
                   refine pure_y 10 (some 81) spec_SegOk.b11_ (any_of HT_.out (by kernel_rfl)) (h := ?_)
                   refine pure_n 11 (some 82) spec_SegOk.b12_ (any_of HT_.out (by kernel_rfl)) (h := ?_)
                   refine pure_n 12 (some 83) spec_SegOk.b13_ (any_of HT_.out (by kernel_rfl)) (h := ?_)
                   refine pure_n 13 (some 84) spec_SegOk.b14_ (any_of HT_.out (by kernel_rfl)) (h := ?_)
                   refine pure_n 14 (some 85) spec_SegOk.b15_ (any_of HT_.out (by kernel_rfl)) (h := ?_)
                   refine pure_n 15 (some 86) spec_SegOk.b17_ (any_of HT_.out (by kernel_rfl)) (h := ?_)
                   refine pure_n 16 (some 87) spec_SegOk.b19_ (any_of HT_.out (by kernel_rfl)) (h := ?_)
                   refine pure_n 17 (some 88) spec_SegOk.b21_ (any_of HT_.out (by kernel_rfl)) (h := ?_)
                   refine pure_n 18 (some 89) spec_SegOk.b22_ (any_of HT_.out (by kernel_rfl)) (h := ?_)
                   refine pure_n 19 (some 90) spec_SegOk.b23_ (any_of HT_.out (by kernel_rfl)) (h := ?_)
                   refine pure_n 20 (some 91) spec_SegOk.b24_ (any_of HT_.out (by kernel_rfl)) (h := ?_)
                   refine pure_n 21 (some 92) spec_SegOk.b25_ (any_of HT_.out (by kernel_rfl)) (h := ?_)
                   refine pure_y 22 (some 93) spec_SegOk.b26_ (any_of HT_.out (by kernel_rfl)) (h := ?_)
                   refine pure_y 23 (some 94) spec_SegOk.b27_ (any_of HT_.out (by kernel_rfl)) (h := ?_)
                   refine pure_y 24 (some 95) spec_SegOk.b28_ (any_of HT_.out (by kernel_rfl)) (h := ?_)
                   refine pure_y 26 (some 97) spec_SegOk.b29_ (any_of HT_.out (by kernel_rfl)) (h := ?_)
                   refine pure_y 27 (some 98) spec_SegOk.b31_ (any_of HT_.out (by kernel_rfl)) (h := ?_)
                   refine pure_y 28 (some 99) spec_SegOk.b33_ (any_of HT_.out (by kernel_rfl)) (h := ?_)
                   refine pure_y 31 (some 102) spec_SegOk.b35_ (any_of HT_.out (by kernel_rfl)) (h := ?_)
                   refine take_y 25 (some 96) spec_SegOk.b37_ rfl (take_ofW HT_.out HW_.out (by kernel_rfl)) hHeld (Or.inl ⟨by rfl, (by rintro w' ⟨s0, s1, s2, s3, s4, s5, s6⟩; go_simp; with_reducible rfl)⟩) (h := ?_)
                   refine take_y 29 (some 100) spec_SegOk.b39_ rfl (take_ofW HT_.out HW_.out (by kernel_rfl)) hHeld (Or.inl ⟨by rfl, (by rintro w' ⟨s0, s1, s2, s3, s4, s5, s6⟩; go_simp; with_reducible rfl)⟩) (h := ?_)
                   refine one_ (i := 30) (N := some 101) spec_SegOk.b41_ rfl rfl (one_of HT_.out (by kernel_rfl)) (by decide) (fun K hK => ?_); refine gs_ Tryd.func26 #[.agg #[.slice (some ad134) l2_0.length c2_0, .slice A2_1 l2_1.length c2_1, .slice A2_2 l2_2.length c2_2], .agg #[.int .i64 ((rd_T55 (rd_L7 l2_0 x9_2) x11_4).f0), .int .i64 ((rd_T55 (rd_L7 l2_0 x9_2) x11_4).f1)]] (h := ?_); with_reducible refine (spec_l10In.calls k4 _ _ l2_0 _ _ l2_1 _ _ l2_2 ((rd_T55 (rd_L7 l2_0 x9_2) x11_4).f0) ((rd_T55 (rd_L7 l2_0 x9_2) x11_4).f1) t143 _ ?side1 ?side2 ?side3 ?side4 ?side5 ?side6 A45.out).mono ?_
                   (case side1 => exact sq_c (Kd.C_below HR2_0.out HB.out))
                   (case side2 => exact HC2_0.out)
                   (case side3 => exact sq_c (Kd.C_below HR2_1.out HB.out))
                   (case side4 => exact HC2_1.out)
                   (case side5 => exact sq_c (Kd.C_below HR2_2.out HB.out))
                   (case side6 => exact HC2_2.out)
                   rintro e w52 ⟨rfl, hb⟩; refine ⟨_, rfl, ?_⟩; replace BK132 := bb_ BK132 hb; replace HB := hb1_ HB hb GE132
                   (try clear hb)
                   (try clear hb2)
                   (try clear hk)
                   (try clear hi)
                   refine hK.out _ _ ⟨cl_ BK132 0, cl_ BK132 1, cl_ BK132 2, ((HB.out.cell (World.block_lt_of_cell? w _ hw135_0)).trans hw135_0), ((HB.out.cell (World.block_lt_of_cell? w _ hw135_1)).trans hw135_1), ((HB.out.cell (World.block_lt_of_cell? w _ hw142_0)).trans hw142_0), ((HB.out.cell (World.block_lt_of_cell? w _ hw142_1)).trans hw142_1)⟩ (fun hHeld => ?_); clear hK K; refine norm_y 101 (h := ?_)
                   refine pure_y 32 (some 103) spec_SegOk.b42_ (any_of HT_.out (by kernel_rfl)) (h := ?_)
                   refine pure_y 33 (some 104) spec_SegOk.b43_ (any_of HT_.out (by kernel_rfl)) (h := ?_)
                   refine done_ (done_of HT_.out (by kernel_rfl)) ?_
                   try go_wp2
                   go_ret
                   exact ⟨by first | rfl | (simp [errW_none, errW_some] <;> rfl) | (simp [*, errW_none, errW_some] <;> rfl), sq_below1 HB.out GE132.out⟩
                ·
                 replace c25 := Bool.eq_false_iff.mpr c25; subst c25; have H1 := ifn_ H
                 clear H; have H := H1; clear H1; obtain rfl := Option.some.inj H
                 try go_wp2
                 replace HB := hd_ HB; have p135 : 0 ≤ (x11_4 : Int) := sq_dec; have q135 : x11_4 < ((rd_L7 l2_0 x9_2).length : Int) := sq_dec; obtain ⟨ad135, e135, hx135_0, hx135_1⟩ := at_T55 HR134_0.out x11_4 p135 q135; have hw135_1 := hx135_1; have hw135_0 := hx135_0; cases e135; replace hx135_0 := (HB.out.cell (World.block_lt_of_cell? w _ hx135_0)).trans hx135_0; replace hx135_1 := (HB.out.cell (World.block_lt_of_cell? w _ hx135_1)).trans hx135_1; replace p135 := eq_true p135; replace q135 := eq_true q135; refine start_ (n := 34) (S := fun w' => w'.cell? (ad135.add ((x11_4).toNat * 2)) = some (.int .i64 ((rd_T55 (rd_L7 l2_0 x9_2) x11_4).f0)) ∧ w'.cell? ⟨(ad135.add ((x11_4).toNat * 2)).block, (ad135.add ((x11_4).toNat * 2)).off + 1, none⟩ = some (.int .i64 ((rd_T55 (rd_L7 l2_0 x9_2) x11_4).f1))) (ds := []) spec_SegOk.b0_ (by kernel_rfl) rfl rfl ⟨((HB.out.cell (World.block_lt_of_cell? w _ hw135_0)).trans hw135_0), ((HB.out.cell (World.block_lt_of_cell? w _ hw135_1)).trans hw135_1)⟩ (fun hHeld => ?_); refine with_tabW spec_SegOk.tab15 spec_SegOk.bits15 (fun HT_ HW_ => ?_); generalize wr.drew = w53 at HB hx135_0 hx135_1 hHeld ⊢; refine pure_y 0 (some 71) spec_SegOk.b1_ (any_of HT_.out (by kernel_rfl)) (h := ?_)
                 refine pure_y 1 (some 72) spec_SegOk.b2_ (any_of HT_.out (by kernel_rfl)) (h := ?_)
                 refine pure_y 2 (some 73) spec_SegOk.b3_ (any_of HT_.out (by kernel_rfl)) (h := ?_)
                 refine pure_y 3 (some 74) spec_SegOk.b4_ (any_of HT_.out (by kernel_rfl)) (h := ?_)
                 refine take_y 4 (some 75) spec_SegOk.b5_ rfl (take_ofW HT_.out HW_.out (by kernel_rfl)) hHeld (Or.inl ⟨by rfl, (by rintro w' ⟨s0, s1⟩; go_simp; with_reducible rfl)⟩) (h := ?_)
                 refine one_ (i := 5) (N := some 76) spec_SegOk.b6_ rfl rfl (one_of HT_.out (by kernel_rfl)) (by decide) (fun K hK => ?_); refine gs_ Tryd.func24 #[.int .i64 a0, .agg #[.int .i64 ((rd_T55 (rd_L7 l2_0 x9_2) x11_4).f0), .int .i64 ((rd_T55 (rd_L7 l2_0 x9_2) x11_4).f1)]] (h := ?_); with_reducible refine (spec_SymOk.calls a0 ((rd_T55 (rd_L7 l2_0 x9_2) x11_4).f0) ((rd_T55 (rd_L7 l2_0 x9_2) x11_4).f1) false _ A24.out).mono ?_
                 rintro e w54 ⟨rfl, hb⟩; refine ⟨_, rfl, ?_⟩; replace HB := hb_ HB hb
                 (try clear hb)
                 (try clear hb2)
                 (try clear hk)
                 (try clear hi)
                 refine hK.out _ _ ⟨((HB.out.cell (World.block_lt_of_cell? w _ hw135_0)).trans hw135_0), ((HB.out.cell (World.block_lt_of_cell? w _ hw135_1)).trans hw135_1)⟩ (fun hHeld => ?_); clear hK K; refine norm_y 76 (h := ?_)
                 refine pure_y 6 (some 77) spec_SegOk.b7_ (any_of HT_.out (by kernel_rfl)) (h := ?_)
                 refine pure_y 7 (some 78) spec_SegOk.b8_ (any_of HT_.out (by kernel_rfl)) (h := ?_)
                 refine pure_n 8 (some 79) spec_SegOk.b9_ (any_of HT_.out (by kernel_rfl)) (h := ?_)
                 refine pure_n 9 (some 80) spec_SegOk.b10_ (any_of HT_.out (by kernel_rfl)) (h := ?_)
                 refine pure_n 10 (some 81) spec_SegOk.b11_ (any_of HT_.out (by kernel_rfl)) (h := ?_)
                 refine pure_n 11 (some 82) spec_SegOk.b12_ (any_of HT_.out (by kernel_rfl)) (h := ?_)
                 refine pure_n 12 (some 83) spec_SegOk.b13_ (any_of HT_.out (by kernel_rfl)) (h := ?_)
                 refine pure_n 13 (some 84) spec_SegOk.b14_ (any_of HT_.out (by kernel_rfl)) (h := ?_)
                 refine pure_n 14 (some 85) spec_SegOk.b15_ (any_of HT_.out (by kernel_rfl)) (h := ?_)
                 refine pure_n 15 (some 86) spec_SegOk.b17_ (any_of HT_.out (by kernel_rfl)) (h := ?_)
                 refine pure_n 16 (some 87) spec_SegOk.b19_ (any_of HT_.out (by kernel_rfl)) (h := ?_)
                 refine pure_n 17 (some 88) spec_SegOk.b21_ (any_of HT_.out (by kernel_rfl)) (h := ?_)
                 refine pure_n 18 (some 89) spec_SegOk.b22_ (any_of HT_.out (by kernel_rfl)) (h := ?_)
                 refine pure_n 19 (some 90) spec_SegOk.b23_ (any_of HT_.out (by kernel_rfl)) (h := ?_)
                 refine pure_n 20 (some 91) spec_SegOk.b24_ (any_of HT_.out (by kernel_rfl)) (h := ?_)
                 refine pure_n 21 (some 92) spec_SegOk.b25_ (any_of HT_.out (by kernel_rfl)) (h := ?_)
                 refine pure_n 22 (some 93) spec_SegOk.b26_ (any_of HT_.out (by kernel_rfl)) (h := ?_)
                 refine pure_y 23 (some 94) spec_SegOk.b27_ (any_of HT_.out (by kernel_rfl)) (h := ?_)
                 refine pure_y 24 (some 95) spec_SegOk.b28_ (any_of HT_.out (by kernel_rfl)) (h := ?_)
                 refine pure_n 25 (some 96) spec_SegOk.b30_ (any_of HT_.out (by kernel_rfl)) (h := ?_)
                 refine pure_n 26 (some 97) spec_SegOk.b32_ (any_of HT_.out (by kernel_rfl)) (h := ?_)
                 refine pure_n 27 (some 98) spec_SegOk.b34_ (any_of HT_.out (by kernel_rfl)) (h := ?_)
                 refine pure_n 28 (some 99) spec_SegOk.b36_ (any_of HT_.out (by kernel_rfl)) (h := ?_)
                 refine pure_n 29 (some 100) spec_SegOk.b38_ (any_of HT_.out (by kernel_rfl)) (h := ?_)
                 refine pure_n 30 (some 101) spec_SegOk.b40_ (any_of HT_.out (by kernel_rfl)) (h := ?_)
                 refine pure_n 31 (some 102) spec_SegOk.b41_ (any_of HT_.out (by kernel_rfl)) (h := ?_)
                 refine pure_n 32 (some 103) spec_SegOk.b42_ (any_of HT_.out (by kernel_rfl)) (h := ?_)
                 refine pure_y 33 (some 104) spec_SegOk.b43_ (any_of HT_.out (by kernel_rfl)) (h := ?_)
                 refine done_ (done_of HT_.out (by kernel_rfl)) ?_
                 try go_wp2
                 go_ret
                 exact ⟨by first | rfl | (simp [errW_none, errW_some] <;> rfl) | (simp [*, errW_none, errW_some] <;> rfl), sq_below HB.out⟩
               ·
                rw [if_neg c23] at H; exact absurd H (by simp)
              ·
               rw [if_neg c22] at H; have c22b0 : decide (x11_4 < ((rd_L7 l2_0 x9_2).length : Int)) = false := decide_eq_false c22; clear c22; have H' := Aside0.mk H; clear H
               go_wp2
               go_roundg k4
               case measure => have := HJ3.out; have := HK2.out; have := HJ17.out; have := HK4.out; omega
               case rel => exact ⟨((wrap64 (x8_2 + ((rd_L7 l2_0 x9_2).length : Int)))), (wrap64 (x9_2 + 1)), (by first | rfl | (simp; done) | (simp [*]; done)), (by first | rfl | (simp; done) | (simp [*]; done)), H', ⟨by have := HJ3.out; have := HK2.out; have := HJ17.out; have := HK4.out; omega⟩, bk_ BK132, ⟨sq_below1 HB.out GE132.out⟩⟩
        ·
         rw [if_neg c17] at H; exact absurd H (by simp)
       ·
        rw [if_neg c16] at H; exact absurd H (by simp)
      ·
       rw [if_neg c15] at H; have c15b0 : decide (x9_2 < (l2_0.length : Int)) = false := decide_eq_false c15; clear c15; have H' := Aside0.mk H; clear H
       go_wp2
       go_loopg [12] k2 (fun kq v12 w' => ∃ (x12_3 : Int), v12 = .int .i64 x12_3 ∧ Aside0 (spec_SegOk.l2 kq a1 (l2_0.length : Int) x12_3 l2_0 l2_1 l2_2 = some r) ∧ Aside0 (kq ≤ k2) ∧ Aside0 (w'.heap[gb132]? = some (.cells #[(.slice A2_0 l2_0.length c2_0), (.slice A2_1 l2_1.length c2_1), (.slice A2_2 l2_2.length c2_2)] 32 (0, 0))) ∧ Aside0 (Below w.heap.size w w'))
       case atStart => exact ⟨(0), (by first | rfl | (simp; done) | (simp [*]; done)), H', ⟨Nat.le_refl _⟩, bk_ BK132, ⟨sq_below1 HB.out GE132.out⟩⟩
       case round =>
        clear H'
        try clear c1
        try clear p1
        try clear q1
        try clear hx1
        try clear c2
        try clear p2
        try clear c4
        try clear p6
        try clear p13
        try clear q13
        try clear hx13
        try clear p14
        try clear q14
        try clear hx14
        try clear c15
        try clear c15b0
        try clear c16
        try clear c17
        try clear c22
        try clear c22b0
        try clear c23
        try clear c24
        try clear c25
        try clear c26
        try clear c46
        try clear c46b0
        try clear c46b1
        try clear hx135_0
        try clear hx135_1
        try clear hx142_0
        try clear hx142_1
        try clear p135
        try clear p142
        try clear q135
        try clear q142
        obtain ⟨x12_3, rfl, HA, HK3, BK132, HB⟩ := hrel; cases gk with
        | zero => exact absurd HA.out (by simp [spec_SegOk.l2])
        | succ k3 =>
         have H := HA.out; clear HA; simp only [spec_SegOk.l2] at H
         by_cases c55 : x12_3 < (wrap64 ((l2_0.length : Int) - 1))
         ·
          rw [if_pos c55] at H; have c55b0 : decide (x12_3 < (wrap64 ((l2_0.length : Int) - 1))) = true := decide_eq_true c55; clear c55
          by_cases c56 : 0 ≤ x12_3
          ·
           rw [if_pos c56] at H; have c56b0 : decide (0 ≤ x12_3) = true := decide_eq_true c56; clear c56
           by_cases c57 : x12_3 < (l2_1.length : Int)
           ·
            rw [if_pos c57] at H; have c57b0 : decide (x12_3 < (l2_1.length : Int)) = true := decide_eq_true c57; clear c57; replace H := Option.bind_eq_some_iff.mp H; obtain ⟨t145, A580, H⟩ := H; (try dsimp only at H); have A58 := Aside0.mk A580; clear A580
            by_cases c59 : t145 = true
            ·
             subst c59; have H1 := ifp_ H
             clear H; have H := H1; clear H1; have H' := Aside0.mk H; clear H; have hcz60_0 := cl_ (v := .slice A2_0 l2_0.length c2_0) BK132 0; have hcz60_1 := cl_ (v := .slice A2_1 l2_1.length c2_1) BK132 1; have hcz60_2 := cl_ (v := .slice A2_2 l2_2.length c2_2) BK132 2; have hfz60_0 := blk_frozen BK132.out 0; have hfz60_1 := blk_frozen BK132.out 1; have hfz60_2 := blk_frozen BK132.out 2; have p144 : 0 ≤ (x12_3 : Int) := sq_dec; have q144 : x12_3 < (l2_1.length : Int) := sq_dec; obtain ⟨ad144, e144, hx144_0, hx144_1, hx144_2⟩ := at_T62 HR2_1.out x12_3 p144 q144; cases e144; replace hx144_0 := (HB.out.cell (World.block_lt_of_cell? w _ hx144_0)).trans hx144_0; replace hx144_1 := (HB.out.cell (World.block_lt_of_cell? w _ hx144_1)).trans hx144_1; replace hx144_2 := (HB.out.cell (World.block_lt_of_cell? w _ hx144_2)).trans hx144_2; replace p144 := eq_true p144; replace q144 := eq_true q144
             go_wp2_with (first | ((with_reducible refine gate_callee (f := 27) rfl ?_); refine gl_ 116 Tryd.func27 #[.agg #[.int .i64 ((rd_T62 l2_1 x12_3).f0.f0), .int .i64 ((rd_T62 l2_1 x12_3).f0.f1), .bool ((rd_T62 l2_1 x12_3).f1)]] (h := ?_); (with_reducible refine (spec_ValOk.calls ((rd_T62 l2_1 x12_3).f0.f0) ((rd_T62 l2_1 x12_3).f0.f1) ((rd_T62 l2_1 x12_3).f1) true _ A58.out).mono ?_); rintro e w61 ⟨rfl, hb⟩; refine ⟨_, rfl, ?_⟩; replace BK132 := bb_ BK132 hb; replace HB := hb1_ HB hb GE132; (try clear hb)))
             go_roundg k3
             case measure => have := HJ3.out; have := HK2.out; have := HK3.out; omega
             case rel => exact ⟨(wrap64 (x12_3 + 1)), (by first | rfl | (simp; done) | (simp [*]; done)), H', ⟨by have := HJ3.out; have := HK2.out; have := HK3.out; omega⟩, bk_ BK132, ⟨sq_below1 HB.out GE132.out⟩⟩
            ·
             replace c59 := Bool.eq_false_iff.mpr c59; subst c59; have H1 := ifn_ H
             clear H; have H := H1; clear H1; obtain rfl := Option.some.inj H; have hcz62_0 := cl_ (v := .slice A2_0 l2_0.length c2_0) BK132 0; have hcz62_1 := cl_ (v := .slice A2_1 l2_1.length c2_1) BK132 1; have hcz62_2 := cl_ (v := .slice A2_2 l2_2.length c2_2) BK132 2; have hfz62_0 := blk_frozen BK132.out 0; have hfz62_1 := blk_frozen BK132.out 1; have hfz62_2 := blk_frozen BK132.out 2; have p144 : 0 ≤ (x12_3 : Int) := sq_dec; have q144 : x12_3 < (l2_1.length : Int) := sq_dec; obtain ⟨ad144, e144, hx144_0, hx144_1, hx144_2⟩ := at_T62 HR2_1.out x12_3 p144 q144; cases e144; replace hx144_0 := (HB.out.cell (World.block_lt_of_cell? w _ hx144_0)).trans hx144_0; replace hx144_1 := (HB.out.cell (World.block_lt_of_cell? w _ hx144_1)).trans hx144_1; replace hx144_2 := (HB.out.cell (World.block_lt_of_cell? w _ hx144_2)).trans hx144_2; replace p144 := eq_true p144; replace q144 := eq_true q144
             go_wp2_with (first | ((with_reducible refine gate_callee (f := 27) rfl ?_); refine gl_ 116 Tryd.func27 #[.agg #[.int .i64 ((rd_T62 l2_1 x12_3).f0.f0), .int .i64 ((rd_T62 l2_1 x12_3).f0.f1), .bool ((rd_T62 l2_1 x12_3).f1)]] (h := ?_); (with_reducible refine (spec_ValOk.calls ((rd_T62 l2_1 x12_3).f0.f0) ((rd_T62 l2_1 x12_3).f0.f1) ((rd_T62 l2_1 x12_3).f1) false _ A58.out).mono ?_); rintro e w63 ⟨rfl, hb⟩; refine ⟨_, rfl, ?_⟩; replace HB := hb_ HB hb; (try clear hb)))
             go_ret
             exact ⟨by first | rfl | (simp [errW_none, errW_some] <;> rfl) | (simp [*, errW_none, errW_some] <;> rfl), sq_below HB.out⟩
           ·
            rw [if_neg c57] at H; exact absurd H (by simp)
          ·
           rw [if_neg c56] at H; exact absurd H (by simp)
         ·
          rw [if_neg c55] at H; have c55b0 : decide (x12_3 < (wrap64 ((l2_0.length : Int) - 1))) = false := decide_eq_false c55; clear c55; replace H := Option.bind_eq_some_iff.mp H; obtain ⟨t146, A640, H⟩ := H; (try dsimp only at H); have A64 := Aside0.mk A640; clear A640
          by_cases c65 : t146 = 0
          ·
           rw [if_pos c65] at H; have c65b0 : (t146 == 0) = true := beq_iff_eq.mpr c65; have c65b1 : (t146 != 0) = false := bne_eq_false_iff_eq.mpr c65; clear c65; replace H := Option.bind_eq_some_iff.mp H; obtain ⟨t147, A660, H⟩ := H; (try dsimp only at H); have A66 := Aside0.mk A660; clear A660; obtain rfl := Option.some.inj H; have hcz67_0 := cl_ (v := .slice A2_0 l2_0.length c2_0) BK132 0; have hcz67_1 := cl_ (v := .slice A2_1 l2_1.length c2_1) BK132 1; have hcz67_2 := cl_ (v := .slice A2_2 l2_2.length c2_2) BK132 2; have hfz67_0 := blk_frozen BK132.out 0; have hfz67_1 := blk_frozen BK132.out 1; have hfz67_2 := blk_frozen BK132.out 2
           go_wp2_with (first | ((with_reducible refine gate_callee (f := 26) rfl ?_); refine gl_ 120 Tryd.func26 #[.agg #[.slice A2_0 l2_0.length c2_0, .slice A2_1 l2_1.length c2_1, .slice A2_2 l2_2.length c2_2], .agg #[.int .i64 0, .int .i64 0]] (h := ?_); (with_reducible refine (spec_l10In.calls k3 _ _ l2_0 _ _ l2_1 _ _ l2_2 0 0 t146 _ ?side1 ?side2 ?side3 ?side4 ?side5 ?side6 A64.out).mono ?_); (case side1 => exact sq_c (Kd.C_below HR2_0.out HB.out)); (case side2 => exact HC2_0.out); (case side3 => exact sq_c (Kd.C_below HR2_1.out HB.out)); (case side4 => exact HC2_1.out); (case side5 => exact sq_c (Kd.C_below HR2_2.out HB.out)); (case side6 => exact HC2_2.out); rintro e w68 ⟨rfl, hb⟩; refine ⟨_, rfl, ?_⟩; replace BK132 := bb_ BK132 hb; replace HB := hb1_ HB hb GE132; (try clear hb); have hcz69_0 := cl_ (v := .slice A2_0 l2_0.length c2_0) BK132 0; have hcz69_1 := cl_ (v := .slice A2_1 l2_1.length c2_1) BK132 1; have hcz69_2 := cl_ (v := .slice A2_2 l2_2.length c2_2) BK132 2; have hfz69_0 := blk_frozen BK132.out 0; have hfz69_1 := blk_frozen BK132.out 1; have hfz69_2 := blk_frozen BK132.out 2) | (go_at_call 26; (with_reducible refine (spec_l10In.calls k3 _ _ l2_0 _ _ l2_1 _ _ l2_2 a1 0 t147 _ ?side1 ?side2 ?side3 ?side4 ?side5 ?side6 A66.out).mono ?_); (case side1 => exact sq_c (Kd.C_below HR2_0.out HB.out)); (case side2 => exact HC2_0.out); (case side3 => exact sq_c (Kd.C_below HR2_1.out HB.out)); (case side4 => exact HC2_1.out); (case side5 => exact sq_c (Kd.C_below HR2_2.out HB.out)); (case side6 => exact HC2_2.out); rintro e w70 ⟨rfl, hb⟩; replace HB := hb_ HB hb; (try clear hb)))
           go_ret
           exact ⟨by first | rfl | (simp [errW_none, errW_some] <;> rfl) | (simp [*, errW_none, errW_some] <;> rfl), sq_below HB.out⟩
          ·
           rw [if_neg c65] at H; have c65b0 : (t146 == 0) = false := beq_eq_false_iff_ne.mpr c65; have c65b1 : (t146 != 0) = true := bne_iff_ne.mpr c65; obtain rfl := Option.some.inj H; have hcz71_0 := cl_ (v := .slice A2_0 l2_0.length c2_0) BK132 0; have hcz71_1 := cl_ (v := .slice A2_1 l2_1.length c2_1) BK132 1; have hcz71_2 := cl_ (v := .slice A2_2 l2_2.length c2_2) BK132 2; have hfz71_0 := blk_frozen BK132.out 0; have hfz71_1 := blk_frozen BK132.out 1; have hfz71_2 := blk_frozen BK132.out 2
           go_wp2_with (first | ((with_reducible refine gate_callee (f := 26) rfl ?_); refine gl_ 120 Tryd.func26 #[.agg #[.slice A2_0 l2_0.length c2_0, .slice A2_1 l2_1.length c2_1, .slice A2_2 l2_2.length c2_2], .agg #[.int .i64 0, .int .i64 0]] (h := ?_); (with_reducible refine (spec_l10In.calls k3 _ _ l2_0 _ _ l2_1 _ _ l2_2 0 0 t146 _ ?side1 ?side2 ?side3 ?side4 ?side5 ?side6 A64.out).mono ?_); (case side1 => exact sq_c (Kd.C_below HR2_0.out HB.out)); (case side2 => exact HC2_0.out); (case side3 => exact sq_c (Kd.C_below HR2_1.out HB.out)); (case side4 => exact HC2_1.out); (case side5 => exact sq_c (Kd.C_below HR2_2.out HB.out)); (case side6 => exact HC2_2.out); rintro e w72 ⟨rfl, hb⟩; refine ⟨_, rfl, ?_⟩; replace HB := hb_ HB hb; (try clear hb)))
           go_ret
           exact ⟨by first | rfl | (simp [errW_none, errW_some] <;> rfl) | (simp [*, errW_none, errW_some] <;> rfl), sq_below HB.out⟩

end Go.Proofs.YtfeloencepgdlaaDoor.Q
