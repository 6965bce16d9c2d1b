/- Functions of the translation as Lean functions, each with a proof that a call answers so; out of the seat, by this claim's own program prt.py. -/
import Derived.Test.YtfeloencepgdlaaDoorWTab
import Derived.Test.YtfeloencepgdlaaDoorWRepsOne
import Derived.Test.YtfeloencepgdlaaDoorWGuard
import Derived.Test.YtfeloencepgdlaaDoorQx0
import Derived.Test.YtfeloencepgdlaaDoorQx7
import Derived.Test.YtfeloencepgdlaaDoorQx28
import Derived.Test.YtfeloencepgdlaaDoorQx29
import Derived.Test.YtfeloencepgdlaaDoorQStep
namespace Go.Proofs.YtfeloencepgdlaaDoor.Q
open Go.RowKit Go.Proofs.YtfeloencepgdlaaDoorW.PrintWords Go.Proofs.YtfeloencepgdlaaDoorW.PrintLast Go.Proofs.YtfeloencepgdlaaDoorW.PrintMore
attribute [local go_sem] max2_int min2_int max_two min_two max_three min_three max_four min_four   -- for this text's walks alone
set_option linter.unusedVariables false
set_option linter.unusedSimpArgs false

/-! ### spec_SegHas: function 12 -/
abbrev spec_SegHas.b0_ : Array Bool := #[false, false, false, false, false, false, false, false, false, false, false, false, false, false, false, false, false, false, false, false, false, false, false, false, false, false, false, false, false, false]
abbrev spec_SegHas.b1_ : Array Bool := #[true, false, false, false, false, false, false, false, false, false, false, false, false, false, false, false, false, false, false, false, false, false, false, false, false, false, false, false, false, false]
abbrev spec_SegHas.b2_ : Array Bool := #[true, true, false, false, false, false, false, false, false, false, false, false, false, false, false, false, false, false, false, false, false, false, false, false, false, false, false, false, false, false]
abbrev spec_SegHas.b3_ : Array Bool := #[true, true, true, false, false, false, false, false, false, false, false, false, false, false, false, false, false, false, false, false, false, false, false, false, false, false, false, false, false, false]
abbrev spec_SegHas.b4_ : Array Bool := #[true, true, true, false, true, false, false, false, false, false, false, false, false, false, false, false, false, false, false, false, false, false, false, false, false, false, false, false, false, false]
abbrev spec_SegHas.b5_ : Array Bool := #[true, true, true, false, true, true, false, false, false, false, false, false, false, false, false, false, false, false, false, false, false, false, false, false, false, false, false, false, false, false]
abbrev spec_SegHas.b6_ : Array Bool := #[true, true, true, false, true, true, true, false, false, false, false, false, false, false, false, false, false, false, false, false, false, false, false, false, false, false, false, false, false, false]
abbrev spec_SegHas.b7_ : Array Bool := #[true, true, true, false, true, true, true, true, false, false, false, false, false, false, false, false, false, false, false, false, false, false, false, false, false, false, false, false, false, false]
abbrev spec_SegHas.b8_ : Array Bool := #[true, true, true, true, true, true, true, true, false, false, false, false, false, false, false, false, false, false, false, false, false, false, false, false, false, false, false, false, false, false]
abbrev spec_SegHas.b9_ : Array Bool := #[true, true, true, true, true, true, true, true, true, false, false, false, false, false, false, false, false, false, false, false, false, false, false, false, false, false, false, false, false, false]
abbrev spec_SegHas.b10_ : Array Bool := #[true, true, true, true, true, true, true, true, true, true, false, false, false, false, false, false, false, false, false, false, false, false, false, false, false, false, false, false, false, false]
abbrev spec_SegHas.b11_ : Array Bool := #[true, true, true, true, true, true, true, true, true, true, true, false, false, false, false, false, false, false, false, false, false, false, false, false, false, false, false, false, false, false]
abbrev spec_SegHas.b12_ : Array Bool := #[true, true, true, true, true, true, true, true, true, true, true, true, false, false, false, false, false, false, false, false, false, false, false, false, false, false, false, false, false, false]
abbrev spec_SegHas.b13_ : Array Bool := #[true, true, true, true, true, true, true, true, true, true, true, true, true, false, false, false, false, false, false, false, false, false, false, false, false, false, false, false, false, false]
abbrev spec_SegHas.b14_ : Array Bool := #[true, true, true, true, true, true, true, true, true, true, true, true, true, true, false, false, false, false, false, false, false, false, false, false, false, false, false, false, false, false]
abbrev spec_SegHas.b15_ : Array Bool := #[true, true, true, true, true, true, true, true, true, true, true, true, true, true, false, true, false, false, false, false, false, false, false, false, false, false, false, false, false, false]
abbrev spec_SegHas.b16_ : Array Bool := #[true, true, true, true, true, true, true, true, true, true, true, true, true, true, false, true, true, false, false, false, false, false, false, false, false, false, false, false, false, false]
abbrev spec_SegHas.b17_ : Array Bool := #[true, true, true, true, true, true, true, true, true, true, true, true, true, true, false, true, true, true, false, false, false, false, false, false, false, false, false, false, false, false]
abbrev spec_SegHas.b18_ : Array Bool := #[true, true, true, true, true, true, true, true, true, true, true, true, true, true, false, true, true, true, true, false, false, false, false, false, false, false, false, false, false, false]
abbrev spec_SegHas.b19_ : Array Bool := #[true, true, true, true, true, true, true, true, true, true, true, true, true, true, true, true, true, true, true, false, false, false, false, false, false, false, false, false, false, false]
abbrev spec_SegHas.b20_ : Array Bool := #[true, true, true, true, true, true, true, true, true, true, true, true, true, true, true, true, true, true, true, true, false, false, false, false, false, false, false, false, false, false]
abbrev spec_SegHas.b21_ : Array Bool := #[true, true, true, true, true, true, true, true, true, true, true, true, true, true, true, true, true, true, true, true, true, false, false, false, false, false, false, false, false, false]
abbrev spec_SegHas.b22_ : Array Bool := #[true, true, true, true, true, true, true, true, true, true, true, true, true, true, true, true, true, true, true, true, true, true, false, false, false, false, false, false, false, false]
abbrev spec_SegHas.b23_ : Array Bool := #[true, true, true, true, true, true, true, true, true, true, true, true, true, true, true, true, true, true, true, true, true, true, true, false, false, false, false, false, false, false]
abbrev spec_SegHas.b24_ : Array Bool := #[true, true, true, true, true, true, true, true, true, true, true, true, true, true, true, true, true, true, true, true, true, true, true, true, false, false, false, false, false, false]
abbrev spec_SegHas.b25_ : Array Bool := #[true, true, true, true, true, true, true, true, true, true, true, true, true, true, true, true, true, true, true, true, true, true, true, false, true, false, false, false, false, false]
abbrev spec_SegHas.b26_ : Array Bool := #[true, true, true, true, true, true, true, true, true, true, true, true, true, true, true, true, true, true, true, true, true, true, true, true, true, false, false, false, false, false]
abbrev spec_SegHas.b27_ : Array Bool := #[true, true, true, true, true, true, true, true, true, true, true, true, true, true, true, true, true, true, true, true, true, true, true, true, true, true, false, false, false, false]
abbrev spec_SegHas.b28_ : Array Bool := #[true, true, true, true, true, true, true, true, true, true, true, true, true, true, true, true, true, true, true, true, true, true, true, true, true, true, true, false, false, false]
abbrev spec_SegHas.b29_ : Array Bool := #[true, true, true, true, true, true, true, true, true, true, true, true, true, true, true, true, true, true, true, true, true, true, true, true, true, true, true, true, false, false]
abbrev spec_SegHas.b30_ : Array Bool := #[true, true, true, true, true, true, true, true, true, true, true, true, true, true, true, true, true, true, true, true, true, true, true, true, true, true, true, true, true, false]
abbrev spec_SegHas.b31_ : Array Bool := #[true, true, true, true, true, true, true, true, true, true, true, true, true, true, true, true, true, true, true, true, true, true, true, true, true, true, true, true, true, true]
abbrev spec_SegHas.b32_ : Array Bool := #[false, false, false, false, false, false, false, false, false, false, false, false, false, false, false, false, false, false, false, false, false, false, false, false]
abbrev spec_SegHas.b33_ : Array Bool := #[true, false, false, false, false, false, false, false, false, false, false, false, false, false, false, false, false, false, false, false, false, false, false, false]
abbrev spec_SegHas.b34_ : Array Bool := #[true, true, false, false, false, false, false, false, false, false, false, false, false, false, false, false, false, false, false, false, false, false, false, false]
abbrev spec_SegHas.b35_ : Array Bool := #[true, true, false, true, false, false, false, false, false, false, false, false, false, false, false, false, false, false, false, false, false, false, false, false]
abbrev spec_SegHas.b36_ : Array Bool := #[true, true, false, true, false, false, true, false, false, false, false, false, false, false, false, false, false, false, false, false, false, false, false, false]
abbrev spec_SegHas.b37_ : Array Bool := #[true, true, false, true, false, false, true, false, false, false, false, false, true, false, false, false, false, false, false, false, false, false, false, false]
abbrev spec_SegHas.b38_ : Array Bool := #[true, true, false, true, false, false, true, false, false, false, false, false, true, false, true, false, false, false, false, false, false, false, false, false]
abbrev spec_SegHas.b39_ : Array Bool := #[true, true, false, true, false, false, true, false, false, false, false, false, true, false, true, false, false, true, false, false, false, false, false, false]
abbrev spec_SegHas.b40_ : Array Bool := #[true, true, false, true, false, false, true, false, false, false, false, false, true, false, true, false, false, true, false, false, false, false, true, false]
abbrev spec_SegHas.b41_ : Array Bool := #[true, true, true, true, false, false, true, false, false, false, false, false, true, false, true, false, false, true, false, false, false, false, true, false]
abbrev spec_SegHas.b42_ : Array Bool := #[true, true, true, true, true, false, true, false, false, false, false, false, true, false, true, false, false, true, false, false, false, false, true, false]
abbrev spec_SegHas.b43_ : Array Bool := #[true, true, true, true, true, true, true, false, false, false, false, false, true, false, true, false, false, true, false, false, false, false, true, false]
abbrev spec_SegHas.b44_ : Array Bool := #[true, true, true, true, true, true, true, true, false, false, false, false, true, false, true, false, false, true, false, false, false, false, true, false]
abbrev spec_SegHas.b45_ : Array Bool := #[true, true, true, true, true, true, true, true, true, false, false, false, true, false, true, false, false, true, false, false, false, false, true, false]
abbrev spec_SegHas.b46_ : Array Bool := #[true, true, true, true, true, true, true, true, true, true, false, false, true, false, true, false, false, true, false, false, false, false, true, false]
abbrev spec_SegHas.b47_ : Array Bool := #[true, true, true, true, true, true, true, true, true, true, true, false, true, false, true, false, false, true, false, false, false, false, true, false]
abbrev spec_SegHas.b48_ : Array Bool := #[true, true, true, true, true, true, true, true, true, true, true, true, true, false, true, false, false, true, false, false, false, false, true, false]
abbrev spec_SegHas.b49_ : Array Bool := #[true, true, true, true, true, true, true, true, true, true, true, true, true, true, true, false, false, true, false, false, false, false, true, false]
abbrev spec_SegHas.b50_ : Array Bool := #[true, true, true, true, true, true, true, true, true, true, true, true, true, true, true, true, false, true, false, false, false, false, true, false]
abbrev spec_SegHas.b51_ : Array Bool := #[true, true, true, true, true, true, true, true, true, true, true, true, true, true, true, true, true, true, false, false, false, false, true, false]
abbrev spec_SegHas.b52_ : Array Bool := #[true, true, true, true, true, true, true, true, true, true, true, true, true, true, true, true, true, true, true, false, false, false, true, false]
abbrev spec_SegHas.b53_ : Array Bool := #[true, true, true, true, true, true, true, true, true, true, true, true, true, true, true, true, true, true, true, true, false, false, true, false]
abbrev spec_SegHas.b54_ : Array Bool := #[true, true, true, true, true, true, true, true, true, true, true, true, true, true, true, true, true, true, true, true, true, false, true, false]
abbrev spec_SegHas.b55_ : Array Bool := #[true, true, true, true, true, true, true, true, true, true, true, true, true, true, true, true, true, true, true, true, true, true, true, false]
abbrev spec_SegHas.b56_ : Array Bool := #[true, true, true, true, true, true, true, true, true, true, true, true, true, true, true, true, true, true, true, true, true, true, true, true]
abbrev spec_SegHas.b57_ : Array Bool := #[false, false, false, false, false, false, false, false, false, false, false]
abbrev spec_SegHas.b58_ : Array Bool := #[true, false, false, false, false, false, false, false, false, false, false]
abbrev spec_SegHas.b59_ : Array Bool := #[true, false, true, false, false, false, false, false, false, false, false]
abbrev spec_SegHas.b60_ : Array Bool := #[true, false, true, false, false, true, false, false, false, false, false]
abbrev spec_SegHas.b61_ : Array Bool := #[true, false, true, false, false, true, true, false, false, false, false]
abbrev spec_SegHas.b62_ : Array Bool := #[true, false, true, false, false, true, true, true, false, false, false]
abbrev spec_SegHas.b63_ : Array Bool := #[true, true, true, false, false, true, true, true, false, false, false]
abbrev spec_SegHas.b64_ : Array Bool := #[true, true, true, true, false, true, true, true, false, false, false]
abbrev spec_SegHas.b65_ : Array Bool := #[true, true, true, true, true, true, true, true, false, false, false]
abbrev spec_SegHas.b66_ : Array Bool := #[true, true, true, true, true, true, true, true, true, false, false]
abbrev spec_SegHas.b67_ : Array Bool := #[true, true, true, true, true, true, true, true, true, true, false]
abbrev spec_SegHas.b68_ : Array Bool := #[true, true, true, true, true, true, true, true, true, true, true]
mutual
def spec_SegHas.j0 : Nat → List Int → List (S77) → Bool → List (List (S55)) → List (S62) → List Bool → Option (Bool)
 | 0, _, _, _, _, _, _ => none
 | k + 1, x3, x4, x37, x319000, x319001, x319002 => if x37 = true then (some false) else (spec_SegHas.l0 k x3 x4 (([] : List Int)) 0 x319000 x319001 x319002)
def spec_SegHas.l0 : Nat → List Int → List (S77) → List Int → Int → List (List (S55)) → List (S62) → List Bool → Option (Bool)
 | 0, _, _, _, _, _, _, _ => none
 | k + 1, x3, x4, x11, x12, x319000, x319001, x319002 => if x12 < (x319000.length : Int) then (if 0 ≤ x12 then (if 0 < ((rd_L7 x319000 x12).length : Int) then (if 0 ≤ ((rd_T55 (rd_L7 x319000 x12) 0).f0) then (if ((rd_T55 (rd_L7 x319000 x12) 0).f0) < (x3.length : Int) then (spec_SegHas.l1 k x3 x4 x11 x12 (wrap64 ((rd x3 ((rd_T55 (rd_L7 x319000 x12) 0).f0)) + ((rd_T55 (rd_L7 x319000 x12) 0).f1))) 0 x319000 x319001 x319002) else (none)) else (none)) else (none)) else (none)) else (spec_SegHas.l2 k x4 x11 0 x319000 x319001 x319002)
def spec_SegHas.l1 : Nat → List Int → List (S77) → List Int → Int → Int → Int → List (List (S55)) → List (S62) → List Bool → Option (Bool)
 | 0, _, _, _, _, _, _, _, _, _ => none
 | k + 1, x3, x4, x11, x12, x13, x14, x319000, x319001, x319002 => if 0 ≤ x12 then (if x12 < (x319000.length : Int) then (if x14 < ((rd_L7 x319000 x12).length : Int) then (if 0 ≤ x14 then (if 0 ≤ ((rd_T55 (rd_L7 x319000 x12) x14).f0) then (if ((rd_T55 (rd_L7 x319000 x12) x14).f0) < (x3.length : Int) then (if (wrap64 ((rd x3 ((rd_T55 (rd_L7 x319000 x12) x14).f0)) + ((rd_T55 (rd_L7 x319000 x12) x14).f1))) = x13 then (spec_SegHas.l1 k x3 x4 x11 x12 x13 (wrap64 (x14 + 1)) x319000 x319001 x319002) else (some false)) else (none)) else (none)) else (none)) else (if x11.length < 17592186044416 then (spec_SegHas.l0 k x3 x4 (x11 ++ [x13]) (wrap64 (x12 + 1)) x319000 x319001 x319002) else (none))) else (none)) else (none)
def spec_SegHas.l2 : Nat → List (S77) → List Int → Int → List (List (S55)) → List (S62) → List Bool → Option (Bool)
 | 0, _, _, _, _, _, _ => none
 | k + 1, x4, x11, x15, x319000, x319001, x319002 => if x15 < (x319001.length : Int) then (if 0 ≤ x15 then (if x15 < (x11.length : Int) then (if 0 ≤ (wrap64 (x15 + 1)) then (if (wrap64 (x15 + 1)) < (x11.length : Int) then (if (rd x11 x15) > (rd x11 (wrap64 (x15 + 1))) then (some false) else (if (rd x11 x15) = (rd x11 (wrap64 (x15 + 1))) then (if x15 < (x319002.length : Int) then (if rdOf false x319002 x15 = true then (spec_SegHas.l2 k x4 x11 (wrap64 (x15 + 1)) x319000 x319001 x319002) else (some false)) else (none)) else (spec_SegHas.l2 k x4 x11 (wrap64 (x15 + 1)) x319000 x319001 x319002))) else (none)) else (none)) else (none)) else (none)) else (spec_SegHas.l3 k x4 x11 0 x319000 x319001 x319002)
def spec_SegHas.l3 : Nat → List (S77) → List Int → Int → List (List (S55)) → List (S62) → List Bool → Option (Bool)
 | 0, _, _, _, _, _, _ => none
 | k + 1, x4, x11, x16, x319000, x319001, x319002 => if x16 < (x319001.length : Int) then (if 0 ≤ x16 then (if x16 < (x11.length : Int) then (spec_SegHas.l4 k x4 x11 x16 (rd x11 x16) x319000 x319001 x319002) else (none)) else (none)) else (some true)
def spec_SegHas.l4 : Nat → List (S77) → List Int → Int → Int → List (List (S55)) → List (S62) → List Bool → Option (Bool)
 | 0, _, _, _, _, _, _, _ => none
 | k + 1, x4, x11, x16, x17, x319000, x319001, x319002 => if 0 ≤ (wrap64 (x16 + 1)) then (if (wrap64 (x16 + 1)) < (x11.length : Int) then (if x17 < (rd x11 (wrap64 (x16 + 1))) then (if 0 ≤ x16 then (if x16 < (x319001.length : Int) then (if 0 ≤ x17 then (if x17 < (x4.length : Int) then ((spec_ValHas.f ((rd_T62 x319001 x16).f0.f0) ((rd_T62 x319001 x16).f0.f1) ((rd_T62 x319001 x16).f1) ((rd_T77 x4 x17).f0) ((rd_T77 x4 x17).f1)).bind fun t348 => (if t348 = true then (spec_SegHas.l4 k x4 x11 x16 (wrap64 (x17 + 1)) x319000 x319001 x319002) else (some false))) else (none)) else (none)) else (none)) else (none)) else (spec_SegHas.l3 k x4 x11 (wrap64 (x16 + 1)) x319000 x319001 x319002)) else (none)) else (none)
end
def spec_SegHas.f (k : Nat) (a0 : Int) (a1 : Int) (l2_0 : List (List (S55))) (l2_1 : List (S62)) (l2_2 : List Bool) (l3 : List Int) (l4 : List (S77)) : Option (Bool) := (spec_SegOk.f k a0 a1 l2_0 l2_1 l2_2).bind fun t319 => (if t319 = true then ((spec_l07Vals.f k a0 l3).bind fun t320 => (if t320 = true then (if 0 ≤ a1 then (if a1 < (l3.length : Int) then (spec_SegHas.j0 k l3 l4 ((l4.length : Int) != (rd l3 a1)) l2_0 l2_1 l2_2) else (none)) else (none)) else (spec_SegHas.j0 k l3 l4 true l2_0 l2_1 l2_2))) else (spec_SegHas.j0 k l3 l4 true l2_0 l2_1 l2_2))
theorem spec_SegHas.mono_l : ∀ k, (∀ y0 y1 y2 y3 y4 y5, LeO (spec_SegHas.j0 k y0 y1 y2 y3 y4 y5) (spec_SegHas.j0 (k + 1) y0 y1 y2 y3 y4 y5)) ∧ (∀ y0 y1 y2 y3 y4 y5 y6, LeO (spec_SegHas.l0 k y0 y1 y2 y3 y4 y5 y6) (spec_SegHas.l0 (k + 1) y0 y1 y2 y3 y4 y5 y6)) ∧ (∀ y0 y1 y2 y3 y4 y5 y6 y7 y8, LeO (spec_SegHas.l1 k y0 y1 y2 y3 y4 y5 y6 y7 y8) (spec_SegHas.l1 (k + 1) y0 y1 y2 y3 y4 y5 y6 y7 y8)) ∧ (∀ y0 y1 y2 y3 y4 y5, LeO (spec_SegHas.l2 k y0 y1 y2 y3 y4 y5) (spec_SegHas.l2 (k + 1) y0 y1 y2 y3 y4 y5)) ∧ (∀ y0 y1 y2 y3 y4 y5, LeO (spec_SegHas.l3 k y0 y1 y2 y3 y4 y5) (spec_SegHas.l3 (k + 1) y0 y1 y2 y3 y4 y5)) ∧ (∀ y0 y1 y2 y3 y4 y5 y6, LeO (spec_SegHas.l4 k y0 y1 y2 y3 y4 y5 y6) (spec_SegHas.l4 (k + 1) y0 y1 y2 y3 y4 y5 y6))
 | 0 => ⟨fun _ _ _ _ _ _ r h => by simp [spec_SegHas.j0] at h, fun _ _ _ _ _ _ _ r h => by simp [spec_SegHas.l0] at h, fun _ _ _ _ _ _ _ _ _ r h => by simp [spec_SegHas.l1] at h, fun _ _ _ _ _ _ r h => by simp [spec_SegHas.l2] at h, fun _ _ _ _ _ _ r h => by simp [spec_SegHas.l3] at h, fun _ _ _ _ _ _ _ r h => by simp [spec_SegHas.l4] at h⟩
 | k + 1 => by
  obtain ⟨ih0, ih1, ih2, ih3, ih4, ih5⟩ := spec_SegHas.mono_l k; refine ⟨?_, ?_, ?_, ?_, ?_, ?_⟩
  ·
   intro y0 y1 y2 y3 y4 y5; unfold spec_SegHas.j0
   repeat' first
   | (with_reducible exact ih0 _ _ _ _ _ _)
   | (with_reducible exact ih1 _ _ _ _ _ _ _)
   | (with_reducible exact ih2 _ _ _ _ _ _ _ _ _)
   | (with_reducible exact ih3 _ _ _ _ _ _)
   | (with_reducible exact ih4 _ _ _ _ _ _)
   | (with_reducible exact ih5 _ _ _ _ _ _ _)
   | (with_reducible exact spec_SegOk.mono _ _ _ _ _ _)
   | (with_reducible exact spec_l07Vals.mono _ _ _)
   | (with_reducible exact LeO.refl _)
   | (with_reducible exact LeO.none _)
   | (with_reducible refine LeO.ite ?_ ?_)
   | (with_reducible refine LeO.bind ?_ (fun _ => ?_))
   | exact ih0 _ _ _ _ _ _
   | exact ih1 _ _ _ _ _ _ _
   | exact ih2 _ _ _ _ _ _ _ _ _
   | exact ih3 _ _ _ _ _ _
   | exact ih4 _ _ _ _ _ _
   | exact ih5 _ _ _ _ _ _ _
   | exact spec_SegOk.mono _ _ _ _ _ _
   | exact spec_l07Vals.mono _ _ _
   | exact LeO.none _
   | refine LeO.ite ?_ ?_
   | refine LeO.bind ?_ (fun _ => ?_)
  ·
   intro y0 y1 y2 y3 y4 y5 y6; unfold spec_SegHas.l0
   repeat' first
   | (with_reducible exact ih0 _ _ _ _ _ _)
   | (with_reducible exact ih1 _ _ _ _ _ _ _)
   | (with_reducible exact ih2 _ _ _ _ _ _ _ _ _)
   | (with_reducible exact ih3 _ _ _ _ _ _)
   | (with_reducible exact ih4 _ _ _ _ _ _)
   | (with_reducible exact ih5 _ _ _ _ _ _ _)
   | (with_reducible exact spec_SegOk.mono _ _ _ _ _ _)
   | (with_reducible exact spec_l07Vals.mono _ _ _)
   | (with_reducible exact LeO.refl _)
   | (with_reducible exact LeO.none _)
   | (with_reducible refine LeO.ite ?_ ?_)
   | (with_reducible refine LeO.bind ?_ (fun _ => ?_))
   | exact ih0 _ _ _ _ _ _
   | exact ih1 _ _ _ _ _ _ _
   | exact ih2 _ _ _ _ _ _ _ _ _
   | exact ih3 _ _ _ _ _ _
   | exact ih4 _ _ _ _ _ _
   | exact ih5 _ _ _ _ _ _ _
   | exact spec_SegOk.mono _ _ _ _ _ _
   | exact spec_l07Vals.mono _ _ _
   | exact LeO.none _
   | refine LeO.ite ?_ ?_
   | refine LeO.bind ?_ (fun _ => ?_)
  ·
   intro y0 y1 y2 y3 y4 y5 y6 y7 y8; unfold spec_SegHas.l1
   repeat' first
   | (with_reducible exact ih0 _ _ _ _ _ _)
   | (with_reducible exact ih1 _ _ _ _ _ _ _)
   | (with_reducible exact ih2 _ _ _ _ _ _ _ _ _)
   | (with_reducible exact ih3 _ _ _ _ _ _)
   | (with_reducible exact ih4 _ _ _ _ _ _)
   | (with_reducible exact ih5 _ _ _ _ _ _ _)
   | (with_reducible exact spec_SegOk.mono _ _ _ _ _ _)
   | (with_reducible exact spec_l07Vals.mono _ _ _)
   | (with_reducible exact LeO.refl _)
   | (with_reducible exact LeO.none _)
   | (with_reducible refine LeO.ite ?_ ?_)
   | (with_reducible refine LeO.bind ?_ (fun _ => ?_))
   | exact ih0 _ _ _ _ _ _
   | exact ih1 _ _ _ _ _ _ _
   | exact ih2 _ _ _ _ _ _ _ _ _
   | exact ih3 _ _ _ _ _ _
   | exact ih4 _ _ _ _ _ _
   | exact ih5 _ _ _ _ _ _ _
   | exact spec_SegOk.mono _ _ _ _ _ _
   | exact spec_l07Vals.mono _ _ _
   | exact LeO.none _
   | refine LeO.ite ?_ ?_
   | refine LeO.bind ?_ (fun _ => ?_)
  ·
   intro y0 y1 y2 y3 y4 y5; unfold spec_SegHas.l2
   repeat' first
   | (with_reducible exact ih0 _ _ _ _ _ _)
   | (with_reducible exact ih1 _ _ _ _ _ _ _)
   | (with_reducible exact ih2 _ _ _ _ _ _ _ _ _)
   | (with_reducible exact ih3 _ _ _ _ _ _)
   | (with_reducible exact ih4 _ _ _ _ _ _)
   | (with_reducible exact ih5 _ _ _ _ _ _ _)
   | (with_reducible exact spec_SegOk.mono _ _ _ _ _ _)
   | (with_reducible exact spec_l07Vals.mono _ _ _)
   | (with_reducible exact LeO.refl _)
   | (with_reducible exact LeO.none _)
   | (with_reducible refine LeO.ite ?_ ?_)
   | (with_reducible refine LeO.bind ?_ (fun _ => ?_))
   | exact ih0 _ _ _ _ _ _
   | exact ih1 _ _ _ _ _ _ _
   | exact ih2 _ _ _ _ _ _ _ _ _
   | exact ih3 _ _ _ _ _ _
   | exact ih4 _ _ _ _ _ _
   | exact ih5 _ _ _ _ _ _ _
   | exact spec_SegOk.mono _ _ _ _ _ _
   | exact spec_l07Vals.mono _ _ _
   | exact LeO.none _
   | refine LeO.ite ?_ ?_
   | refine LeO.bind ?_ (fun _ => ?_)
  ·
   intro y0 y1 y2 y3 y4 y5; unfold spec_SegHas.l3
   repeat' first
   | (with_reducible exact ih0 _ _ _ _ _ _)
   | (with_reducible exact ih1 _ _ _ _ _ _ _)
   | (with_reducible exact ih2 _ _ _ _ _ _ _ _ _)
   | (with_reducible exact ih3 _ _ _ _ _ _)
   | (with_reducible exact ih4 _ _ _ _ _ _)
   | (with_reducible exact ih5 _ _ _ _ _ _ _)
   | (with_reducible exact spec_SegOk.mono _ _ _ _ _ _)
   | (with_reducible exact spec_l07Vals.mono _ _ _)
   | (with_reducible exact LeO.refl _)
   | (with_reducible exact LeO.none _)
   | (with_reducible refine LeO.ite ?_ ?_)
   | (with_reducible refine LeO.bind ?_ (fun _ => ?_))
   | exact ih0 _ _ _ _ _ _
   | exact ih1 _ _ _ _ _ _ _
   | exact ih2 _ _ _ _ _ _ _ _ _
   | exact ih3 _ _ _ _ _ _
   | exact ih4 _ _ _ _ _ _
   | exact ih5 _ _ _ _ _ _ _
   | exact spec_SegOk.mono _ _ _ _ _ _
   | exact spec_l07Vals.mono _ _ _
   | exact LeO.none _
   | refine LeO.ite ?_ ?_
   | refine LeO.bind ?_ (fun _ => ?_)
  ·
   intro y0 y1 y2 y3 y4 y5 y6; unfold spec_SegHas.l4
   repeat' first
   | (with_reducible exact ih0 _ _ _ _ _ _)
   | (with_reducible exact ih1 _ _ _ _ _ _ _)
   | (with_reducible exact ih2 _ _ _ _ _ _ _ _ _)
   | (with_reducible exact ih3 _ _ _ _ _ _)
   | (with_reducible exact ih4 _ _ _ _ _ _)
   | (with_reducible exact ih5 _ _ _ _ _ _ _)
   | (with_reducible exact spec_SegOk.mono _ _ _ _ _ _)
   | (with_reducible exact spec_l07Vals.mono _ _ _)
   | (with_reducible exact LeO.refl _)
   | (with_reducible exact LeO.none _)
   | (with_reducible refine LeO.ite ?_ ?_)
   | (with_reducible refine LeO.bind ?_ (fun _ => ?_))
   | exact ih0 _ _ _ _ _ _
   | exact ih1 _ _ _ _ _ _ _
   | exact ih2 _ _ _ _ _ _ _ _ _
   | exact ih3 _ _ _ _ _ _
   | exact ih4 _ _ _ _ _ _
   | exact ih5 _ _ _ _ _ _ _
   | exact spec_SegOk.mono _ _ _ _ _ _
   | exact spec_l07Vals.mono _ _ _
   | exact LeO.none _
   | refine LeO.ite ?_ ?_
   | refine LeO.bind ?_ (fun _ => ?_)
theorem spec_SegHas.mono : ∀ a0 a1 a2 a3 a4 a5 a6 k, LeO (spec_SegHas.f k a0 a1 a2 a3 a4 a5 a6) (spec_SegHas.f (k + 1) a0 a1 a2 a3 a4 a5 a6) := by
 intro a0 a1 a2 a3 a4 a5 a6 k; obtain ⟨ih0, ih1, ih2, ih3, ih4, ih5⟩ := spec_SegHas.mono_l k; unfold spec_SegHas.f
 repeat' first
   | (with_reducible exact ih0 _ _ _ _ _ _)
   | (with_reducible exact ih1 _ _ _ _ _ _ _)
   | (with_reducible exact ih2 _ _ _ _ _ _ _ _ _)
   | (with_reducible exact ih3 _ _ _ _ _ _)
   | (with_reducible exact ih4 _ _ _ _ _ _)
   | (with_reducible exact ih5 _ _ _ _ _ _ _)
   | (with_reducible exact spec_SegOk.mono _ _ _ _ _ _)
   | (with_reducible exact spec_l07Vals.mono _ _ _)
   | (with_reducible exact LeO.refl _)
   | (with_reducible exact LeO.none _)
   | (with_reducible refine LeO.ite ?_ ?_)
   | (with_reducible refine LeO.bind ?_ (fun _ => ?_))
   | exact ih0 _ _ _ _ _ _
   | exact ih1 _ _ _ _ _ _ _
   | exact ih2 _ _ _ _ _ _ _ _ _
   | exact ih3 _ _ _ _ _ _
   | exact ih4 _ _ _ _ _ _
   | exact ih5 _ _ _ _ _ _ _
   | exact spec_SegOk.mono _ _ _ _ _ _
   | exact spec_l07Vals.mono _ _ _
   | exact LeO.none _
   | refine LeO.ite ?_ ?_
   | refine LeO.bind ?_ (fun _ => ?_)
def spec_SegHas.T7 : Bool × List (List Nat × List Nat) := (true, [([], []), ([], []), ([1], [1]), ([], []), ([2, 3], [2, 3]), ([4], [4]), ([5], [5]), ([6], [6]), ([7], [7]), ([0, 8], [0, 8]), ([9], [9]), ([], []), ([11], [11]), ([], []), ([12, 13], [12, 13]), ([14], [14]), ([15], [15]), ([16], [16]), ([17], [17]), ([10, 18], [10, 18]), ([19, 0, 1, 2, 3, 4, 5, 6, 7, 8, 9, 10, 11, 12, 13, 14, 15, 16, 17, 18, 19], [19])])
def spec_SegHas.B7 : List Nat := [0, 0, 2, 0, 14, 30, 62, 126, 254, 511, 1023, 0, 2048, 0, 14336, 30720, 63488, 129024, 260096, 524287, 1048575]
theorem spec_SegHas.tab7 : rtab .any (opsOf Tryd.f12 7) = spec_SegHas.T7 := by kernel_rfl
theorem spec_SegHas.bits7 : waitsOk spec_SegHas.T7.2 spec_SegHas.B7 = true := by kernel_rfl
def spec_SegHas.T11 : Bool × List (List Nat × List Nat) := (true, [([], []), ([], []), ([1], [1]), ([], []), ([2, 3], [2, 3]), ([4], [4]), ([], []), ([5, 6], [5, 6]), ([7], [7]), ([8], [8]), ([0, 9], [0, 9]), ([10], [10]), ([], []), ([12], [12]), ([], []), ([13, 14], [13, 14]), ([15], [15]), ([], []), ([16, 17], [16, 17]), ([18], [18]), ([19], [19]), ([11, 20], [11, 20]), ([], []), ([21, 22], [21, 22])])
def spec_SegHas.B11 : List Nat := [0, 0, 2, 0, 14, 30, 0, 126, 254, 510, 1023, 2047, 0, 4096, 0, 28672, 61440, 0, 258048, 520192, 1044480, 2097151, 0, 8388607]
theorem spec_SegHas.tab11 : rtab .any (opsOf Tryd.f12 11) = spec_SegHas.T11 := by kernel_rfl
theorem spec_SegHas.bits11 : waitsOk spec_SegHas.T11.2 spec_SegHas.B11 = true := by kernel_rfl
def spec_SegHas.T17 : Bool × List (List Nat × List Nat) := (true, [([], []), ([], []), ([0, 1], [0, 1]), ([2], [2]), ([], []), ([], []), ([5], [5]), ([4, 6], [4, 6]), ([7], [7]), ([3, 8], [3, 8]), ([9], [9]), ([10], [10]), ([10], [10]), ([11, 12, 10], [10, 11, 12]), ([13, 10], [10, 13]), ([10], [10]), ([10], [10]), ([16, 10], [10, 16]), ([15, 17, 10], [10, 15, 17]), ([18, 10], [10, 18]), ([14, 19, 10], [10, 14, 19]), ([20, 10, 10], [10, 20]), ([21], [21]), ([22, 21], [21, 22]), ([21], [21]), ([23, 24, 21], [21, 23, 24]), ([25, 21], [21, 25]), ([26, 21], [21, 26]), ([21, 27, 10], [10, 21, 27]), ([10, 28], [10, 28])])
def spec_SegHas.B17 : List Nat := [0, 0, 3, 7, 0, 0, 32, 112, 240, 511, 1023, 2047, 2047, 8191, 16383, 2047, 2047, 67583, 231423, 493567, 1048575, 2097151, 4194303, 8388607, 4194303, 33554431, 67108863, 134217727, 268435455, 536870911]
theorem spec_SegHas.tab17 : rtab .any (opsOf Tryd.f12 17) = spec_SegHas.T17 := by kernel_rfl
theorem spec_SegHas.bits17 : waitsOk spec_SegHas.T17.2 spec_SegHas.B17 = true := by kernel_rfl
def spec_SegHas.T25 : Bool × List (List Nat × List Nat) := (true, [([], []), ([0], [0]), ([], []), ([1, 2], [1, 2]), ([3], [3]), ([], []), ([], []), ([5, 6], [5, 6]), ([7], [7]), ([4, 8], [4, 8]), ([9], [9])])
def spec_SegHas.B25 : List Nat := [0, 1, 0, 7, 15, 0, 0, 96, 224, 511, 1023]
theorem spec_SegHas.tab25 : rtab .any (opsOf Tryd.f12 25) = spec_SegHas.T25 := by kernel_rfl
theorem spec_SegHas.bits25 : waitsOk spec_SegHas.T25.2 spec_SegHas.B25 = true := by kernel_rfl
set_option maxHeartbeats 8000000 in
set_option maxRecDepth 100000 in
theorem spec_SegHas.calls (k : Nat) (a0 : Int) (a1 : Int) (A2_0 : Option Addr) (c2_0 : Nat) (l2_0 : List (List (S55))) (A2_1 : Option Addr) (c2_1 : Nat) (l2_1 : List (S62)) (A2_2 : Option Addr) (c2_2 : Nat) (l2_2 : List Bool) (A3 : Option Addr) (c3 : Nat) (l3 : List Int) (A4 : Option Addr) (c4 : Nat) (l4 : List (S77)) (r : Bool) (w : World) (hr2_0 : Kd.C (Kd.slice 55 k55) w A2_0 l2_0.length l2_0) (hc2_0 : l2_0.length ≤ c2_0) (hr2_1 : Kd.C k62 w A2_1 l2_1.length l2_1) (hc2_1 : l2_1.length ≤ c2_1) (hr2_2 : Kd.C Kd.bool w A2_2 l2_2.length l2_2) (hc2_2 : l2_2.length ≤ c2_2) (hr3 : Kd.C (Kd.int .i64) w A3 l3.length l3) (hc3 : l3.length ≤ c3) (hr4 : Kd.C k77 w A4 l4.length l4) (hc4 : l4.length ≤ c4) (h : spec_SegHas.f k a0 a1 l2_0 l2_1 l2_2 l3 l4 = some r) :
  Calls Tryd.prog 12 #[.int .i64 a0, .int .i64 a1, .agg #[.slice A2_0 l2_0.length c2_0, .slice A2_1 l2_1.length c2_1, .slice A2_2 l2_2.length c2_2], .slice A3 l3.length c3, .slice A4 l4.length c4] w fun e w' => e = .returned (.bool r) ∧ Below w.heap.size w w' := by
 have hu32 := Tryd.underlying32; have hu62 := Tryd.underlying62; have hu77 := Tryd.underlying77; have HR2_0 := Aside0.mk hr2_0; have HC2_0 := Aside0.mk hc2_0; clear hr2_0 hc2_0; have HR2_1 := Aside0.mk hr2_1; have HC2_1 := Aside0.mk hc2_1; clear hr2_1 hc2_1; have HR2_2 := Aside0.mk hr2_2; have HC2_2 := Aside0.mk hc2_2; clear hr2_2 hc2_2; have HR3 := Aside0.mk hr3; have HC3 := Aside0.mk hc3; clear hr3 hc3; have HR4 := Aside0.mk hr4; have HC4 := Aside0.mk hc4; clear hr4 hc4; have HB := Aside0.mk (Below.refl w.heap.size w); have H : ((spec_SegOk.f k a0 a1 l2_0 l2_1 l2_2).bind fun t319 => (if t319 = true then ((spec_l07Vals.f k a0 l3).bind fun t320 => (if t320 = true then (if 0 ≤ a1 then (if a1 < (l3.length : Int) then (spec_SegHas.j0 k l3 l4 ((l4.length : Int) != (rd l3 a1)) l2_0 l2_1 l2_2) else (none)) else (none)) else (spec_SegHas.j0 k l3 l4 true l2_0 l2_1 l2_2))) else (spec_SegHas.j0 k l3 l4 true l2_0 l2_1 l2_2))) = some r := h; clear h; have HC6 := Aside0.mk H; clear H
 go_enter Tryd.func12, Tryd.ntmps12
 go_upto_region 1 with (first | ((with_reducible refine gate_dst (N := 7) rfl ?_); (try (refine gate_guard (by rfl) ?_; dsimp only)); refine box_y 7 #[.slice A2_0 l2_0.length c2_0, .slice A2_1 l2_1.length c2_1, .slice A2_2 l2_2.length c2_2] 32 (h := ?_); intro gb318 hg w7 hbox hb; have n0_ := Aside0.mk (below_step (sq_below HB.out) hb); have n1_ := Aside0.mk (hbox); have n2_ := ge_ hg (below_size (sq_below HB.out)); have n3_ := ge_ hg (below_size (sq_below HB.out)); clear HB; have HB := n0_; have BK318 := n1_; have GW318 := n2_; have GE318 := n3_; clear n0_ n1_ n2_ n3_; clear hb hbox hg))
 (try simp only [Act.put, List.setIfInBounds_toArray, List.set_cons_zero, List.set_cons_succ])
 go_cut [37] (fun v37 wc => ∃ (kq : Nat) (x37_5 : Bool), v37 = .bool x37_5 ∧ Aside0 (spec_SegHas.j0 kq l3 l4 x37_5 l2_0 l2_1 l2_2 = some r) ∧ Aside0 (kq ≤ k) ∧ Aside0 (wc.heap[gb318]? = some (.cells #[(.slice A2_0 l2_0.length c2_0), (.slice A2_1 l2_1.length c2_1), (.slice A2_2 l2_2.length c2_2)] 32 (0, 0))) ∧ Aside0 (Below w.heap.size w wc))
 case first =>
  have H := HC6.out; clear HC6; replace H := Option.bind_eq_some_iff.mp H; obtain ⟨t319, A80, H⟩ := H; (try dsimp only at H); have A8 := Aside0.mk A80; clear A80
  by_cases c9 : t319 = true
  ·
   subst c9; have H1 := ifp_ H
   clear H; have H := H1; clear H1; replace H := Option.bind_eq_some_iff.mp H; obtain ⟨t320, A100, H⟩ := H; (try dsimp only at H); have A10 := Aside0.mk A100; clear A100
   by_cases c11 : t320 = true
   ·
    subst c11; have H1 := ifp_ H
    clear H; have H := H1; clear H1
    by_cases c12 : 0 ≤ a1
    ·
     rw [if_pos c12] at H; have c12b0 : decide (0 ≤ a1) = true := decide_eq_true c12; clear c12
     (first | rw [c12b0] | (simp only [i64_w, i32_w]; rw [c12b0]) | skip)
     by_cases c13 : a1 < (l3.length : Int)
     ·
      rw [if_pos c13] at H; have c13b0 : decide (a1 < (l3.length : Int)) = true := decide_eq_true c13; clear c13; have H' := Aside0.mk H; clear H; have hcz14_0 := cl_ (v := .slice A2_0 l2_0.length c2_0) BK318 0; have hcz14_1 := cl_ (v := .slice A2_1 l2_1.length c2_1) BK318 1; have hcz14_2 := cl_ (v := .slice A2_2 l2_2.length c2_2) BK318 2; have hfz14_0 := blk_frozen BK318.out 0; have hfz14_1 := blk_frozen BK318.out 1; have hfz14_2 := blk_frozen BK318.out 2
      go_wp2_with (first | ((with_reducible refine gate_callee (f := 7) rfl ?_); refine gl_ 21 Tryd.func7 #[.int .i64 a0, .int .i64 a1, .agg #[.slice A2_0 l2_0.length c2_0, .slice A2_1 l2_1.length c2_1, .slice A2_2 l2_2.length c2_2]] (h := ?_); (with_reducible refine (spec_SegOk.calls k a0 a1 _ _ l2_0 _ _ l2_1 _ _ l2_2 true _ ?side1 ?side2 ?side3 ?side4 ?side5 ?side6 A8.out).mono ?_); (case side1 => exact sq_c (Kd.C_below HR2_0.out HB.out)); (case side2 => exact HC2_0.out); (case side3 => exact sq_c (Kd.C_below HR2_1.out HB.out)); (case side4 => exact HC2_1.out); (case side5 => exact sq_c (Kd.C_below HR2_2.out HB.out)); (case side6 => exact HC2_2.out); rintro e w15 ⟨rfl, hb⟩; refine ⟨_, rfl, ?_⟩; replace BK318 := bb_ BK318 hb; replace HB := hb1_ HB hb GE318; (try clear hb)) | (go_at_call 43; (with_reducible refine (spec_l07Vals.calls k a0 _ _ l3 true _ ?side1 ?side2 A10.out).mono ?_); (case side1 => exact sq_c (Kd.C_below HR3.out HB.out)); (case side2 => exact HC3.out); rintro e w' ⟨rfl, ⟨nd, rfl⟩⟩; have p321 : 0 ≤ (a1 : Int) := sq_dec; have q321 : a1 < (l3.length : Int) := sq_dec; obtain ⟨ad321, e321, hx321_0⟩ := Kd.at_int HR3.out a1 p321 q321; cases e321; replace hx321_0 := (HB.out.cell (World.block_lt_of_cell? w _ hx321_0)).trans hx321_0; replace p321 := eq_true p321; replace q321 := eq_true q321))
      go_meet
      case rel => exact ⟨_, (((l4.length : Int) != (rd l3 a1))), (by first | rfl | (simp; done) | (simp [*]; done)), H', ⟨by first | omega | exact Nat.le_refl _⟩, bk_ BK318, ⟨sq_below1 HB.out GE318.out⟩⟩
     ·
      rw [if_neg c13] at H; exact absurd H (by simp)
    ·
     rw [if_neg c12] at H; exact absurd H (by simp)
   ·
    replace c11 := Bool.eq_false_iff.mpr c11; subst c11; have H1 := ifn_ H
    clear H; have H := H1; clear H1; have H' := Aside0.mk H; clear H; have hcz16_0 := cl_ (v := .slice A2_0 l2_0.length c2_0) BK318 0; have hcz16_1 := cl_ (v := .slice A2_1 l2_1.length c2_1) BK318 1; have hcz16_2 := cl_ (v := .slice A2_2 l2_2.length c2_2) BK318 2; have hfz16_0 := blk_frozen BK318.out 0; have hfz16_1 := blk_frozen BK318.out 1; have hfz16_2 := blk_frozen BK318.out 2
    go_wp2_with (first | ((with_reducible refine gate_callee (f := 7) rfl ?_); refine gl_ 21 Tryd.func7 #[.int .i64 a0, .int .i64 a1, .agg #[.slice A2_0 l2_0.length c2_0, .slice A2_1 l2_1.length c2_1, .slice A2_2 l2_2.length c2_2]] (h := ?_); (with_reducible refine (spec_SegOk.calls k a0 a1 _ _ l2_0 _ _ l2_1 _ _ l2_2 true _ ?side1 ?side2 ?side3 ?side4 ?side5 ?side6 A8.out).mono ?_); (case side1 => exact sq_c (Kd.C_below HR2_0.out HB.out)); (case side2 => exact HC2_0.out); (case side3 => exact sq_c (Kd.C_below HR2_1.out HB.out)); (case side4 => exact HC2_1.out); (case side5 => exact sq_c (Kd.C_below HR2_2.out HB.out)); (case side6 => exact HC2_2.out); rintro e w17 ⟨rfl, hb⟩; refine ⟨_, rfl, ?_⟩; replace BK318 := bb_ BK318 hb; replace HB := hb1_ HB hb GE318; (try clear hb)) | (go_at_call 43; (with_reducible refine (spec_l07Vals.calls k a0 _ _ l3 false _ ?side1 ?side2 A10.out).mono ?_); (case side1 => exact sq_c (Kd.C_below HR3.out HB.out)); (case side2 => exact HC3.out); rintro e w' ⟨rfl, ⟨nd, rfl⟩⟩))
    go_meet
    case rel => exact ⟨_, (true), (by first | rfl | (simp; done) | (simp [*]; done)), H', ⟨by first | omega | exact Nat.le_refl _⟩, bk_ BK318, ⟨sq_below1 HB.out GE318.out⟩⟩
  ·
   replace c9 := Bool.eq_false_iff.mpr c9; subst c9; have H1 := ifn_ H
   clear H; have H := H1; clear H1; have H' := Aside0.mk H; clear H; have hcz18_0 := cl_ (v := .slice A2_0 l2_0.length c2_0) BK318 0; have hcz18_1 := cl_ (v := .slice A2_1 l2_1.length c2_1) BK318 1; have hcz18_2 := cl_ (v := .slice A2_2 l2_2.length c2_2) BK318 2; have hfz18_0 := blk_frozen BK318.out 0; have hfz18_1 := blk_frozen BK318.out 1; have hfz18_2 := blk_frozen BK318.out 2
   go_wp2_with (first | ((with_reducible refine gate_callee (f := 7) rfl ?_); refine gl_ 21 Tryd.func7 #[.int .i64 a0, .int .i64 a1, .agg #[.slice A2_0 l2_0.length c2_0, .slice A2_1 l2_1.length c2_1, .slice A2_2 l2_2.length c2_2]] (h := ?_); (with_reducible refine (spec_SegOk.calls k a0 a1 _ _ l2_0 _ _ l2_1 _ _ l2_2 false _ ?side1 ?side2 ?side3 ?side4 ?side5 ?side6 A8.out).mono ?_); (case side1 => exact sq_c (Kd.C_below HR2_0.out HB.out)); (case side2 => exact HC2_0.out); (case side3 => exact sq_c (Kd.C_below HR2_1.out HB.out)); (case side4 => exact HC2_1.out); (case side5 => exact sq_c (Kd.C_below HR2_2.out HB.out)); (case side6 => exact HC2_2.out); rintro e w19 ⟨rfl, hb⟩; refine ⟨_, rfl, ?_⟩; replace BK318 := bb_ BK318 hb; replace HB := hb1_ HB hb GE318; (try clear hb)))
   go_meet
   case rel => exact ⟨_, (true), (by first | rfl | (simp; done) | (simp [*]; done)), H', ⟨by first | omega | exact Nat.le_refl _⟩, bk_ BK318, ⟨sq_below1 HB.out GE318.out⟩⟩
 case rest =>
  clear HC6
  try clear c1
  try clear c2
  try clear p2
  try clear c3
  try clear p3
  try clear q3
  try clear hx3
  try clear c4
  try clear c7
  try clear c9
  try clear c11
  try clear c12
  try clear c12b0
  try clear c13
  try clear c13b0
  try clear hcz14_0
  try clear hcz14_1
  try clear hcz14_2
  try clear hcz16_0
  try clear hcz16_1
  try clear hcz16_2
  try clear hcz18_0
  try clear hcz18_1
  try clear hcz18_2
  try clear hfz14_0
  try clear hfz14_1
  try clear hfz14_2
  try clear hfz16_0
  try clear hfz16_1
  try clear hfz16_2
  try clear hfz18_0
  try clear hfz18_1
  try clear hfz18_2
  try clear hx321_0
  try clear p321
  try clear q321
  obtain ⟨kq, x37_5, rfl, HA, HJ5, BK318, HB⟩ := hcut; cases kq with
  | zero => exact absurd HA.out (by simp [spec_SegHas.j0])
  | succ kj5 =>
   have H := HA.out; clear HA; simp only [spec_SegHas.j0] at H
   by_cases c20 : x37_5 = true
   ·
    subst c20; have H1 := ifp_ H
    clear H; have H := H1; clear H1; obtain rfl := Option.some.inj H
    go_wp2
    go_ret
    exact ⟨by first | rfl | (simp [errW_none, errW_some] <;> rfl) | (simp [*, errW_none, errW_some] <;> rfl), sq_below1 HB.out GE318.out⟩
   ·
    replace c20 := Bool.eq_false_iff.mpr c20; subst c20; have H1 := ifn_ H
    clear H; have H := H1; clear H1; obtain ⟨y322, hy322⟩ : ∃ y_ : List Int, y_ = (([] : List Int)) := ⟨_, rfl⟩; replace H : (spec_SegHas.l0 kj5 l3 l4 y322 0 l2_0 l2_1 l2_2) = some r := by first | (rw [hy322]; with_reducible exact H) | (have H2_ := (Option.bind_some _ _).symm.trans H; rw [hy322]; with_reducible exact H2_) | (have H2_ := (Option.bind_some _ _).symm.trans H; with_reducible exact H2_) | with_reducible exact H | (rw [hy322]; exact H) | exact H
    have Ny322 := Aside0.mk hy322; clear hy322; have H' := Aside0.mk H; clear H
    go_wp2_with (first | ((with_reducible refine gate_dst (N := 38) rfl ?_); (try (refine gate_guard (by rfl) ?_; dsimp only)); refine Kd.R_lit (Kd.int .i64) _ 3 ?hg (N := 38) ?hd (xs := ([] : List Int)) (inner := []) (ok := fun _ => True) (okp := fun _ => True) ?hr ?hp (fun _ hk => hk) trivial (Below.refl _ _) (Nat.le_refl _) (by simp) ?_; (case hd => rfl); (case hg => rfl); (case hr => first | (go_simp; done) | (go_simp; rfl)); (case hp => exact (Reps.none _ _)); intro v323 w21 ho22 hb hg_ hnew_; clear hg_ hnew_; (first | rw [← Ny322.out] at ho22 | (simp only [Int.reduceToNat] at ho22; rw [← Ny322.out] at ho22)); have n0_ := Aside0.mk (Kd.R_lower ho22 (below_size (sq_below1 HB.out GE318.out))); have n1_ := Aside0.mk (blk_below (sq_blk BK318.out) hb); have n2_ := Aside0.mk (below_step (sq_below1 HB.out GE318.out) hb); clear BK318; clear HB; have HO324 := n0_; have BK318 := n1_; have HB := n2_; clear n0_ n1_ n2_; clear hb ho22))
    go_loopg [11, 12] kj5 (fun kq v11 v12 w' => ∃ (x11_2 : List Int) (x12_2 : Int), v12 = .int .i64 x12_2 ∧ Aside0 (spec_SegHas.l0 kq l3 l4 x11_2 x12_2 l2_0 l2_1 l2_2 = some r) ∧ Aside0 (kq ≤ kj5) ∧ Aside0 (Kd.R (Kd.int .i64) 3 w' w.heap.size (fun _ => True) v11 x11_2) ∧ Aside0 (w'.heap[gb318]? = some (.cells #[(.slice A2_0 l2_0.length c2_0), (.slice A2_1 l2_1.length c2_1), (.slice A2_2 l2_2.length c2_2)] 32 (0, 0))) ∧ Aside0 (Below w.heap.size w w'))
    case atStart => exact ⟨(y322), (0), (by first | rfl | (simp; done) | (simp [*]; done)), H', ⟨Nat.le_refl _⟩, ⟨by (with_reducible repeat (first | apply Kd.R_alloc | apply Kd.R_drewN | apply Kd.R_drew)); exact HO324.out⟩, bk_ BK318, ⟨sq_below1 HB.out GE318.out⟩⟩
    case round =>
     clear H'
     try clear c1
     try clear c2
     try clear p2
     try clear c3
     try clear p3
     try clear q3
     try clear hx3
     try clear c4
     try clear c7
     try clear c9
     try clear c11
     try clear c12
     try clear c12b0
     try clear c13
     try clear c13b0
     try clear c20
     try clear hcz14_0
     try clear hcz14_1
     try clear hcz14_2
     try clear hcz16_0
     try clear hcz16_1
     try clear hcz16_2
     try clear hcz18_0
     try clear hcz18_1
     try clear hcz18_2
     try clear hfz14_0
     try clear hfz14_1
     try clear hfz14_2
     try clear hfz16_0
     try clear hfz16_1
     try clear hfz16_2
     try clear hfz18_0
     try clear hfz18_1
     try clear hfz18_2
     try clear hx321_0
     try clear p2
     try clear p3
     try clear p321
     try clear q3
     try clear q321
     obtain ⟨x11_2, x12_2, rfl, HA, HK2, HO_11, BK318, HB⟩ := hrel; cases gk with
     | zero => exact absurd HA.out (by simp [spec_SegHas.l0])
     | succ k2 =>
      have H := HA.out; clear HA; simp only [spec_SegHas.l0] at H
      by_cases c23 : x12_2 < (l2_0.length : Int)
      ·
       rw [if_pos c23] at H; have c23b0 : decide (x12_2 < (l2_0.length : Int)) = true := decide_eq_true c23; clear c23
       by_cases c24 : 0 ≤ x12_2
       ·
        rw [if_pos c24] at H; have c24b0 : decide (0 ≤ x12_2) = true := decide_eq_true c24; clear c24
        by_cases c25 : 0 < ((rd_L7 l2_0 x12_2).length : Int)
        ·
         rw [if_pos c25] at H; have c25b0 : decide (0 < ((rd_L7 l2_0 x12_2).length : Int)) = true := decide_eq_true c25; have c25b1 : decide (0 < (rd_L7 l2_0 x12_2).length) = true := decide_eq_true (by omega); clear c25
         by_cases c26 : 0 ≤ ((rd_T55 (rd_L7 l2_0 x12_2) 0).f0)
         ·
          rw [if_pos c26] at H; have c26b0 : decide (0 ≤ ((rd_T55 (rd_L7 l2_0 x12_2) 0).f0)) = true := decide_eq_true c26; clear c26
          by_cases c27 : ((rd_T55 (rd_L7 l2_0 x12_2) 0).f0) < (l3.length : Int)
          ·
           rw [if_pos c27] at H; have c27b0 : decide (((rd_T55 (rd_L7 l2_0 x12_2) 0).f0) < (l3.length : Int)) = true := decide_eq_true c27; clear c27; have H' := Aside0.mk H; clear H; have hcz28_0 := cl_ (v := .slice A2_0 l2_0.length c2_0) BK318 0; have hcz28_1 := cl_ (v := .slice A2_1 l2_1.length c2_1) BK318 1; have hcz28_2 := cl_ (v := .slice A2_2 l2_2.length c2_2) BK318 2; have hfz28_0 := blk_frozen BK318.out 0; have hfz28_1 := blk_frozen BK318.out 1; have hfz28_2 := blk_frozen BK318.out 2
           try go_wp2
           replace HO_11 := Aside0.mk (Kd.R_drew HO_11.out); replace BK318 := bd_ BK318; replace HB := hd_ HB; have p325 : 0 ≤ (x12_2 : Int) := sq_dec; have q325 : x12_2 < (l2_0.length : Int) := sq_dec; obtain ⟨ad325, A325_0, c325_0, e325, hx325_0, hl325_0, hi325_0⟩ := at_L7 HR2_0.out x12_2 p325 q325; have hw325_0 := hx325_0; cases e325; replace hx325_0 := (HB.out.cell (World.block_lt_of_cell? w _ hx325_0)).trans hx325_0; have HR325_0 := Aside0.mk hi325_0; have HC325_0 := Aside0.mk hl325_0; clear hi325_0 hl325_0; replace p325 := eq_true p325; replace q325 := eq_true q325; have p326 : 0 ≤ (0 : Int) := (by omega); have q326 : 0 < ((rd_L7 l2_0 x12_2).length : Int) := sq_dec; obtain ⟨ad326, e326, hx326_0, hx326_1⟩ := at_T55 HR325_0.out 0 p326 q326; have hw326_1 := hx326_1
           (try rw [show ((0 : Int)).toNat = 0 from rfl] at hw326_1)
           (try rw [show 0 * 2 = 0 from rfl] at hw326_1)
           (try rw [Addr.add_zero'] at hw326_1)
           have hw326_0 := hx326_0
           (try rw [show ((0 : Int)).toNat = 0 from rfl] at hw326_0)
           (try rw [show 0 * 2 = 0 from rfl] at hw326_0)
           (try rw [Addr.add_zero'] at hw326_0)
           cases e326; have qi326 : (0 < (rd_L7 l2_0 x12_2).length) = True := eq_true (by omega)
           (try rw [show ((0 : Int)).toNat = 0 from rfl] at hx326_0)
           (try rw [show 0 * 2 = 0 from rfl] at hx326_0)
           (try rw [Addr.add_zero'] at hx326_0)
           (try rw [show ((0 : Int)).toNat = 0 from rfl] at hx326_1)
           (try rw [show 0 * 2 = 0 from rfl] at hx326_1)
           (try rw [Addr.add_zero'] at hx326_1)
           replace hx326_0 := (HB.out.cell (World.block_lt_of_cell? w _ hx326_0)).trans hx326_0; replace hx326_1 := (HB.out.cell (World.block_lt_of_cell? w _ hx326_1)).trans hx326_1; replace p326 := eq_true p326; replace q326 := eq_true q326; have p327 : 0 ≤ (((rd_T55 (rd_L7 l2_0 x12_2) 0).f0) : Int) := sq_dec; have q327 : ((rd_T55 (rd_L7 l2_0 x12_2) 0).f0) < (l3.length : Int) := sq_dec; obtain ⟨ad327, e327, hx327_0⟩ := Kd.at_int HR3.out ((rd_T55 (rd_L7 l2_0 x12_2) 0).f0) p327 q327; have hw327_0 := hx327_0; cases e327; replace hx327_0 := (HB.out.cell (World.block_lt_of_cell? w _ hx327_0)).trans hx327_0; replace p327 := eq_true p327; replace q327 := eq_true q327; have p328 : 0 ≤ (x12_2 : Int) := sq_dec; have q328 : x12_2 < (l2_0.length : Int) := sq_dec; obtain ⟨ad328, A328_0, c328_0, e328, hx328_0, hl328_0, hi328_0⟩ := at_L7 HR2_0.out x12_2 p328 q328; have hw328_0 := hx328_0; obtain rfl : ad325 = ad328 := (by injection e328); replace hx328_0 := (HB.out.cell (World.block_lt_of_cell? w _ hx328_0)).trans hx328_0; have HR328_0 := Aside0.mk hi328_0; have HC328_0 := Aside0.mk hl328_0; clear hi328_0 hl328_0; replace p328 := eq_true p328; replace q328 := eq_true q328; have ea_ := Option.some.inj (hx325_0.symm.trans hx328_0)
           injection ea_ with ea_ en_ ec_
           subst ea_; subst ec_; clear en_; have p329 : 0 ≤ (0 : Int) := (by omega); have q329 : 0 < ((rd_L7 l2_0 x12_2).length : Int) := sq_dec; obtain ⟨ad329, e329, hx329_0, hx329_1⟩ := at_T55 HR328_0.out 0 p329 q329; have hw329_1 := hx329_1
           (try rw [show ((0 : Int)).toNat = 0 from rfl] at hw329_1)
           (try rw [show 0 * 2 = 0 from rfl] at hw329_1)
           (try rw [Addr.add_zero'] at hw329_1)
           have hw329_0 := hx329_0
           (try rw [show ((0 : Int)).toNat = 0 from rfl] at hw329_0)
           (try rw [show 0 * 2 = 0 from rfl] at hw329_0)
           (try rw [Addr.add_zero'] at hw329_0)
           cases e329; have qi329 : (0 < (rd_L7 l2_0 x12_2).length) = True := eq_true (by omega)
           (try rw [show ((0 : Int)).toNat = 0 from rfl] at hx329_0)
           (try rw [show 0 * 2 = 0 from rfl] at hx329_0)
           (try rw [Addr.add_zero'] at hx329_0)
           (try rw [show ((0 : Int)).toNat = 0 from rfl] at hx329_1)
           (try rw [show 0 * 2 = 0 from rfl] at hx329_1)
           (try rw [Addr.add_zero'] at hx329_1)
           replace hx329_0 := (HB.out.cell (World.block_lt_of_cell? w _ hx329_0)).trans hx329_0; replace hx329_1 := (HB.out.cell (World.block_lt_of_cell? w _ hx329_1)).trans hx329_1; replace p329 := eq_true p329; replace q329 := eq_true q329; refine start_ (n := 21) (S := fun w' => w'.cell? ⟨gb318, 0, none⟩ = some (.slice (some ad325) l2_0.length c2_0) ∧ w'.cell? ⟨gb318, 1, none⟩ = some (.slice A2_1 l2_1.length c2_1) ∧ w'.cell? ⟨gb318, 2, none⟩ = some (.slice A2_2 l2_2.length c2_2) ∧ w'.cell? (ad325.add (x12_2).toNat) = some (.slice (some ad326) (rd_L7 l2_0 x12_2).length c325_0) ∧ w'.cell? ad326 = some (.int .i64 ((rd_T55 (rd_L7 l2_0 x12_2) 0).f0)) ∧ w'.cell? ⟨ad326.block, ad326.off + 1, none⟩ = some (.int .i64 ((rd_T55 (rd_L7 l2_0 x12_2) 0).f1)) ∧ w'.cell? (ad327.add (((rd_T55 (rd_L7 l2_0 x12_2) 0).f0)).toNat) = some (.int .i64 (rd l3 ((rd_T55 (rd_L7 l2_0 x12_2) 0).f0))) ∧ w'.cell? (ad325.add (x12_2).toNat) = some (.slice (some ad326) (rd_L7 l2_0 x12_2).length c325_0) ∧ w'.cell? ad326 = some (.int .i64 ((rd_T55 (rd_L7 l2_0 x12_2) 0).f0)) ∧ w'.cell? ⟨ad326.block, ad326.off + 1, none⟩ = some (.int .i64 ((rd_T55 (rd_L7 l2_0 x12_2) 0).f1))) (ds := []) #[false, false, false, false, false, false, false, false, false, false, false, false, false, false, false, false, false, false, false, false, false] (by kernel_rfl) rfl rfl ⟨cl_ BK318 0, cl_ BK318 1, cl_ BK318 2, ((HB.out.cell (World.block_lt_of_cell? w _ hw325_0)).trans hw325_0), ((HB.out.cell (World.block_lt_of_cell? w _ hw326_0)).trans hw326_0), ((HB.out.cell (World.block_lt_of_cell? w _ hw326_1)).trans hw326_1), ((HB.out.cell (World.block_lt_of_cell? w _ hw327_0)).trans hw327_0), ((HB.out.cell (World.block_lt_of_cell? w _ hw328_0)).trans hw328_0), ((HB.out.cell (World.block_lt_of_cell? w _ hw329_0)).trans hw329_0), ((HB.out.cell (World.block_lt_of_cell? w _ hw329_1)).trans hw329_1)⟩ (fun hHeld => ?_); refine with_tabW spec_SegHas.tab7 spec_SegHas.bits7 (fun HT_ HW_ => ?_); generalize wr.drew = w29 at HO_11 BK318 HB HR325_0 HR328_0 hx325_0 hx326_0 hx326_1 hx327_0 hx328_0 hx329_0 hx329_1 hHeld ⊢; refine pure_y 0 (some 46) #[true, false, false, false, false, false, false, false, false, false, false, false, false, false, false, false, false, false, false, false, false] (any_of HT_.out (by kernel_rfl)) (h := ?_)
           refine pure_y 1 (some 47) #[true, true, false, false, false, false, false, false, false, false, false, false, false, false, false, false, false, false, false, false, false] (any_of HT_.out (by kernel_rfl)) (h := ?_)
           refine pure_y 3 (some 49) #[true, true, false, true, false, false, false, false, false, false, false, false, false, false, false, false, false, false, false, false, false] (any_of HT_.out (by kernel_rfl)) (h := ?_)
           refine pure_y 11 (some 57) #[true, true, false, true, false, false, false, false, false, false, false, true, false, false, false, false, false, false, false, false, false] (any_of HT_.out (by kernel_rfl)) (h := ?_)
           refine pure_y 13 (some 59) #[true, true, false, true, false, false, false, false, false, false, false, true, false, true, false, false, false, false, false, false, false] (any_of HT_.out (by kernel_rfl)) (h := ?_)
           refine take_y 2 (some 48) #[true, true, true, true, false, false, false, false, false, false, false, true, false, true, false, false, false, false, false, false, false] rfl (take_ofW HT_.out HW_.out (by kernel_rfl)) hHeld (Or.inl ⟨by rfl, (by rintro w' ⟨s0, s1, s2, s3, s4, s5, s6, s7, s8, s9⟩; go_simp; with_reducible rfl)⟩) (h := ?_)
           refine pure_y 4 (some 50) #[true, true, true, true, true, false, false, false, false, false, false, true, false, true, false, false, false, false, false, false, false] (any_of HT_.out (by kernel_rfl)) (h := ?_)
           refine take_y 5 (some 51) #[true, true, true, true, true, true, false, false, false, false, false, true, false, true, false, false, false, false, false, false, false] rfl (take_ofW HT_.out HW_.out (by kernel_rfl)) hHeld (Or.inl ⟨by rfl, (by rintro w' ⟨s0, s1, s2, s3, s4, s5, s6, s7, s8, s9⟩; go_simp; with_reducible rfl)⟩) (h := ?_)
           refine pure_y 6 (some 52) #[true, true, true, true, true, true, true, false, false, false, false, true, false, true, false, false, false, false, false, false, false] (any_of HT_.out (by kernel_rfl)) (h := ?_)
           refine pure_y 7 (some 53) #[true, true, true, true, true, true, true, true, false, false, false, true, false, true, false, false, false, false, false, false, false] (any_of HT_.out (by kernel_rfl)) (h := ?_)
           refine take_y 8 (some 54) #[true, true, true, true, true, true, true, true, true, false, false, true, false, true, false, false, false, false, false, false, false] rfl (take_ofW HT_.out HW_.out (by kernel_rfl)) hHeld (Or.inl ⟨by rfl, (by rintro w' ⟨s0, s1, s2, s3, s4, s5, s6, s7, s8, s9⟩; go_simp; with_reducible rfl)⟩) (h := ?_)
           refine pure_y 9 (some 55) #[true, true, true, true, true, true, true, true, true, true, false, true, false, true, false, false, false, false, false, false, false] (any_of HT_.out (by kernel_rfl)) (h := ?_)
           refine take_y 10 (some 56) #[true, true, true, true, true, true, true, true, true, true, true, true, false, true, false, false, false, false, false, false, false] rfl (take_ofW HT_.out HW_.out (by kernel_rfl)) hHeld (Or.inl ⟨by rfl, (by rintro w' ⟨s0, s1, s2, s3, s4, s5, s6, s7, s8, s9⟩; go_simp; with_reducible rfl)⟩) (h := ?_)
           refine take_y 12 (some 58) #[true, true, true, true, true, true, true, true, true, true, true, true, true, true, false, false, false, false, false, false, false] rfl (take_ofW HT_.out HW_.out (by kernel_rfl)) hHeld (Or.inl ⟨by rfl, (by rintro w' ⟨s0, s1, s2, s3, s4, s5, s6, s7, s8, s9⟩; go_simp; with_reducible rfl)⟩) (h := ?_)
           refine pure_y 14 (some 60) #[true, true, true, true, true, true, true, true, true, true, true, true, true, true, true, false, false, false, false, false, false] (any_of HT_.out (by kernel_rfl)) (h := ?_)
           refine take_y 15 (some 61) #[true, true, true, true, true, true, true, true, true, true, true, true, true, true, true, true, false, false, false, false, false] rfl (take_ofW HT_.out HW_.out (by kernel_rfl)) hHeld (Or.inl ⟨by rfl, (by rintro w' ⟨s0, s1, s2, s3, s4, s5, s6, s7, s8, s9⟩; go_simp; with_reducible rfl)⟩) (h := ?_)
           refine pure_y 16 (some 62) #[true, true, true, true, true, true, true, true, true, true, true, true, true, true, true, true, true, false, false, false, false] (any_of HT_.out (by kernel_rfl)) (h := ?_)
           refine pure_y 17 (some 63) #[true, true, true, true, true, true, true, true, true, true, true, true, true, true, true, true, true, true, false, false, false] (any_of HT_.out (by kernel_rfl)) (h := ?_)
           refine take_y 18 (some 64) #[true, true, true, true, true, true, true, true, true, true, true, true, true, true, true, true, true, true, true, false, false] rfl (take_ofW HT_.out HW_.out (by kernel_rfl)) hHeld (Or.inl ⟨by rfl, (by rintro w' ⟨s0, s1, s2, s3, s4, s5, s6, s7, s8, s9⟩; go_simp; with_reducible rfl)⟩) (h := ?_)
           refine pure_y 19 (some 65) #[true, true, true, true, true, true, true, true, true, true, true, true, true, true, true, true, true, true, true, true, false] (any_of HT_.out (by kernel_rfl)) (h := ?_)
           refine pure_y 20 (some 13) #[true, true, true, true, true, true, true, true, true, true, true, true, true, true, true, true, true, true, true, true, true] (any_of HT_.out (by kernel_rfl)) (h := ?_)
           refine done_ (done_of HT_.out (by kernel_rfl)) ?_
           try go_wp2
           go_loopg [14] k2 (fun kq v14 w' => ∃ (x14_3 : Int), v14 = .int .i64 x14_3 ∧ Aside0 (spec_SegHas.l1 kq l3 l4 x11_2 x12_2 (wrap64 ((rd l3 ((rd_T55 (rd_L7 l2_0 x12_2) 0).f0)) + ((rd_T55 (rd_L7 l2_0 x12_2) 0).f1))) x14_3 l2_0 l2_1 l2_2 = some r) ∧ Aside0 (kq ≤ k2) ∧ Aside0 (Kd.R (Kd.int .i64) 3 w' w.heap.size (fun _ => True) u11 x11_2) ∧ Aside0 (w'.heap[gb318]? = some (.cells #[(.slice (some ad325) l2_0.length c2_0), (.slice A2_1 l2_1.length c2_1), (.slice A2_2 l2_2.length c2_2)] 32 (0, 0))) ∧ Aside0 (Below w.heap.size w w'))
           case atStart => exact ⟨(0), (by first | rfl | (simp; done) | (simp [*]; done)), H', ⟨Nat.le_refl _⟩, ⟨by (with_reducible repeat (first | apply Kd.R_alloc | apply Kd.R_drewN | apply Kd.R_drew)); exact HO_11.out⟩, bk_ BK318, ⟨sq_below1 HB.out GE318.out⟩⟩
           case round =>
            clear H'
            try clear c1
            try clear c2
            try clear p2
            try clear c3
            try clear p3
            try clear q3
            try clear hx3
            try clear qi3
            try clear c4
            try clear p6
            try clear c7
            try clear c9
            try clear c11
            try clear c12
            try clear c12b0
            try clear c13
            try clear c13b0
            try clear c20
            try clear c23
            try clear c23b0
            try clear c24
            try clear c24b0
            try clear c25
            try clear c25b0
            try clear c25b1
            try clear c26
            try clear c26b0
            try clear c27
            try clear c27b0
            try clear hcz14_0
            try clear hcz14_1
            try clear hcz14_2
            try clear hcz16_0
            try clear hcz16_1
            try clear hcz16_2
            try clear hcz18_0
            try clear hcz18_1
            try clear hcz18_2
            try clear hcz28_0
            try clear hcz28_1
            try clear hcz28_2
            try clear hfz14_0
            try clear hfz14_1
            try clear hfz14_2
            try clear hfz16_0
            try clear hfz16_1
            try clear hfz16_2
            try clear hfz18_0
            try clear hfz18_1
            try clear hfz18_2
            try clear hfz28_0
            try clear hfz28_1
            try clear hfz28_2
            try clear hx321_0
            try clear hx325_0
            try clear hx326_0
            try clear hx326_1
            try clear hx327_0
            try clear hx328_0
            try clear hx329_0
            try clear hx329_1
            try clear p2
            try clear p3
            try clear p321
            try clear p325
            try clear p326
            try clear p327
            try clear p328
            try clear p329
            try clear q3
            try clear q321
            try clear q325
            try clear q326
            try clear q327
            try clear q328
            try clear q329
            obtain ⟨x14_3, rfl, HA, HK3, HO_11, BK318, HB⟩ := hrel; cases gk with
            | zero => exact absurd HA.out (by simp [spec_SegHas.l1])
            | succ k3 =>
             have H := HA.out; clear HA; simp only [spec_SegHas.l1] at H
             by_cases c30 : 0 ≤ x12_2
             ·
              rw [if_pos c30] at H; have c30b0 : decide (0 ≤ x12_2) = true := decide_eq_true c30; clear c30
              by_cases c31 : x12_2 < (l2_0.length : Int)
              ·
               rw [if_pos c31] at H; have c31b0 : decide (x12_2 < (l2_0.length : Int)) = true := decide_eq_true c31; clear c31
               by_cases c32 : x14_3 < ((rd_L7 l2_0 x12_2).length : Int)
               ·
                rw [if_pos c32] at H; have c32b0 : decide (x14_3 < ((rd_L7 l2_0 x12_2).length : Int)) = true := decide_eq_true c32; clear c32
                by_cases c33 : 0 ≤ x14_3
                ·
                 rw [if_pos c33] at H; have c33b0 : decide (0 ≤ x14_3) = true := decide_eq_true c33; clear c33
                 by_cases c34 : 0 ≤ ((rd_T55 (rd_L7 l2_0 x12_2) x14_3).f0)
                 ·
                  rw [if_pos c34] at H; have c34b0 : decide (0 ≤ ((rd_T55 (rd_L7 l2_0 x12_2) x14_3).f0)) = true := decide_eq_true c34; clear c34
                  by_cases c35 : ((rd_T55 (rd_L7 l2_0 x12_2) x14_3).f0) < (l3.length : Int)
                  ·
                   rw [if_pos c35] at H; have c35b0 : decide (((rd_T55 (rd_L7 l2_0 x12_2) x14_3).f0) < (l3.length : Int)) = true := decide_eq_true c35; clear c35
                   by_cases c36 : (wrap64 ((rd l3 ((rd_T55 (rd_L7 l2_0 x12_2) x14_3).f0)) + ((rd_T55 (rd_L7 l2_0 x12_2) x14_3).f1))) = (wrap64 ((rd l3 ((rd_T55 (rd_L7 l2_0 x12_2) 0).f0)) + ((rd_T55 (rd_L7 l2_0 x12_2) 0).f1)))
                   ·
                    rw [if_pos c36] at H; have c36b0 : ((wrap64 ((rd l3 ((rd_T55 (rd_L7 l2_0 x12_2) x14_3).f0)) + ((rd_T55 (rd_L7 l2_0 x12_2) x14_3).f1))) == (wrap64 ((rd l3 ((rd_T55 (rd_L7 l2_0 x12_2) 0).f0)) + ((rd_T55 (rd_L7 l2_0 x12_2) 0).f1)))) = true := beq_iff_eq.mpr c36; have c36b1 : ((wrap64 ((rd l3 ((rd_T55 (rd_L7 l2_0 x12_2) x14_3).f0)) + ((rd_T55 (rd_L7 l2_0 x12_2) x14_3).f1))) != (wrap64 ((rd l3 ((rd_T55 (rd_L7 l2_0 x12_2) 0).f0)) + ((rd_T55 (rd_L7 l2_0 x12_2) 0).f1)))) = false := bne_eq_false_iff_eq.mpr c36; clear c36; have H' := Aside0.mk H; clear H; have hcz37_0 := cl_ (v := .slice (some ad325) l2_0.length c2_0) BK318 0; have hcz37_1 := cl_ (v := .slice A2_1 l2_1.length c2_1) BK318 1; have hcz37_2 := cl_ (v := .slice A2_2 l2_2.length c2_2) BK318 2; have hfz37_0 := blk_frozen BK318.out 0; have hfz37_1 := blk_frozen BK318.out 1; have hfz37_2 := blk_frozen BK318.out 2; have p330 : 0 ≤ (x12_2 : Int) := sq_dec; have q330 : x12_2 < (l2_0.length : Int) := sq_dec; obtain ⟨ad330, A330_0, c330_0, e330, hx330_0, hl330_0, hi330_0⟩ := at_L7 HR2_0.out x12_2 p330 q330; obtain rfl : ad325 = ad330 := (by injection e330); replace hx330_0 := (HB.out.cell (World.block_lt_of_cell? w _ hx330_0)).trans hx330_0; have HR330_0 := Aside0.mk hi330_0; have HC330_0 := Aside0.mk hl330_0; clear hi330_0 hl330_0; replace p330 := eq_true p330; replace q330 := eq_true q330
                    try go_wp2
                    replace HO_11 := Aside0.mk (Kd.R_drew HO_11.out); replace BK318 := bd_ BK318; replace HB := hd_ HB; have p331 : 0 ≤ (x12_2 : Int) := sq_dec; have q331 : x12_2 < (l2_0.length : Int) := sq_dec; obtain ⟨ad331, A331_0, c331_0, e331, hx331_0, hl331_0, hi331_0⟩ := at_L7 HR2_0.out x12_2 p331 q331; have hw331_0 := hx331_0; obtain rfl : ad325 = ad331 := (by injection e331); replace hx331_0 := (HB.out.cell (World.block_lt_of_cell? w _ hx331_0)).trans hx331_0; have HR331_0 := Aside0.mk hi331_0; have HC331_0 := Aside0.mk hl331_0; clear hi331_0 hl331_0; replace p331 := eq_true p331; replace q331 := eq_true q331; have p332 : 0 ≤ (x14_3 : Int) := sq_dec; have q332 : x14_3 < ((rd_L7 l2_0 x12_2).length : Int) := sq_dec; obtain ⟨ad332, e332, hx332_0, hx332_1⟩ := at_T55 HR331_0.out x14_3 p332 q332; have hw332_1 := hx332_1; have hw332_0 := hx332_0; cases e332; replace hx332_0 := (HB.out.cell (World.block_lt_of_cell? w _ hx332_0)).trans hx332_0; replace hx332_1 := (HB.out.cell (World.block_lt_of_cell? w _ hx332_1)).trans hx332_1; replace p332 := eq_true p332; replace q332 := eq_true q332; have p333 : 0 ≤ (((rd_T55 (rd_L7 l2_0 x12_2) x14_3).f0) : Int) := sq_dec; have q333 : ((rd_T55 (rd_L7 l2_0 x12_2) x14_3).f0) < (l3.length : Int) := sq_dec; obtain ⟨ad333, e333, hx333_0⟩ := Kd.at_int HR3.out ((rd_T55 (rd_L7 l2_0 x12_2) x14_3).f0) p333 q333; have hw333_0 := hx333_0; obtain rfl : ad327 = ad333 := (by injection e333); replace hx333_0 := (HB.out.cell (World.block_lt_of_cell? w _ hx333_0)).trans hx333_0; replace p333 := eq_true p333; replace q333 := eq_true q333; have p334 : 0 ≤ (x12_2 : Int) := sq_dec; have q334 : x12_2 < (l2_0.length : Int) := sq_dec; obtain ⟨ad334, A334_0, c334_0, e334, hx334_0, hl334_0, hi334_0⟩ := at_L7 HR2_0.out x12_2 p334 q334; have hw334_0 := hx334_0; obtain rfl : ad325 = ad334 := (by injection e334); replace hx334_0 := (HB.out.cell (World.block_lt_of_cell? w _ hx334_0)).trans hx334_0; have HR334_0 := Aside0.mk hi334_0; have HC334_0 := Aside0.mk hl334_0; clear hi334_0 hl334_0; replace p334 := eq_true p334; replace q334 := eq_true q334; have ea_ := Option.some.inj (hx331_0.symm.trans hx334_0)
                    injection ea_ with ea_ en_ ec_
                    subst ea_; subst ec_; clear en_; have p335 : 0 ≤ (x14_3 : Int) := sq_dec; have q335 : x14_3 < ((rd_L7 l2_0 x12_2).length : Int) := sq_dec; obtain ⟨ad335, e335, hx335_0, hx335_1⟩ := at_T55 HR334_0.out x14_3 p335 q335; have hw335_1 := hx335_1; have hw335_0 := hx335_0; cases e335; replace hx335_0 := (HB.out.cell (World.block_lt_of_cell? w _ hx335_0)).trans hx335_0; replace hx335_1 := (HB.out.cell (World.block_lt_of_cell? w _ hx335_1)).trans hx335_1; replace p335 := eq_true p335; replace q335 := eq_true q335; refine start_ (n := 24) (S := fun w' => w'.cell? ⟨gb318, 0, none⟩ = some (.slice (some ad325) l2_0.length c2_0) ∧ w'.cell? ⟨gb318, 1, none⟩ = some (.slice A2_1 l2_1.length c2_1) ∧ w'.cell? ⟨gb318, 2, none⟩ = some (.slice A2_2 l2_2.length c2_2) ∧ w'.cell? (ad325.add (x12_2).toNat) = some (.slice (some ad332) (rd_L7 l2_0 x12_2).length c331_0) ∧ w'.cell? (ad332.add ((x14_3).toNat * 2)) = some (.int .i64 ((rd_T55 (rd_L7 l2_0 x12_2) x14_3).f0)) ∧ w'.cell? ⟨(ad332.add ((x14_3).toNat * 2)).block, (ad332.add ((x14_3).toNat * 2)).off + 1, none⟩ = some (.int .i64 ((rd_T55 (rd_L7 l2_0 x12_2) x14_3).f1)) ∧ w'.cell? (ad327.add (((rd_T55 (rd_L7 l2_0 x12_2) x14_3).f0)).toNat) = some (.int .i64 (rd l3 ((rd_T55 (rd_L7 l2_0 x12_2) x14_3).f0))) ∧ w'.cell? (ad325.add (x12_2).toNat) = some (.slice (some ad332) (rd_L7 l2_0 x12_2).length c331_0) ∧ w'.cell? (ad332.add ((x14_3).toNat * 2)) = some (.int .i64 ((rd_T55 (rd_L7 l2_0 x12_2) x14_3).f0)) ∧ w'.cell? ⟨(ad332.add ((x14_3).toNat * 2)).block, (ad332.add ((x14_3).toNat * 2)).off + 1, none⟩ = some (.int .i64 ((rd_T55 (rd_L7 l2_0 x12_2) x14_3).f1))) (ds := []) spec_SegHas.b32_ (by kernel_rfl) rfl rfl ⟨cl_ BK318 0, cl_ BK318 1, cl_ BK318 2, ((HB.out.cell (World.block_lt_of_cell? w _ hw331_0)).trans hw331_0), ((HB.out.cell (World.block_lt_of_cell? w _ hw332_0)).trans hw332_0), ((HB.out.cell (World.block_lt_of_cell? w _ hw332_1)).trans hw332_1), ((HB.out.cell (World.block_lt_of_cell? w _ hw333_0)).trans hw333_0), ((HB.out.cell (World.block_lt_of_cell? w _ hw334_0)).trans hw334_0), ((HB.out.cell (World.block_lt_of_cell? w _ hw335_0)).trans hw335_0), ((HB.out.cell (World.block_lt_of_cell? w _ hw335_1)).trans hw335_1)⟩ (fun hHeld => ?_); refine with_tabW spec_SegHas.tab11 spec_SegHas.bits11 (fun HT_ HW_ => ?_); generalize wr.drew = w38 at HO_11 BK318 HB HR331_0 HR334_0 hx331_0 hx332_0 hx332_1 hx333_0 hx334_0 hx335_0 hx335_1 hHeld ⊢; refine pure_y 0 (some 76) spec_SegHas.b33_ (any_of HT_.out (by kernel_rfl)) (h := ?_)
                    refine pure_y 1 (some 77) spec_SegHas.b34_ (any_of HT_.out (by kernel_rfl)) (h := ?_)
                    refine pure_y 3 (some 79) spec_SegHas.b35_ (any_of HT_.out (by kernel_rfl)) (h := ?_)
                    refine pure_y 6 (some 82) spec_SegHas.b36_ (any_of HT_.out (by kernel_rfl)) (h := ?_)
                    refine pure_y 12 (some 88) spec_SegHas.b37_ (any_of HT_.out (by kernel_rfl)) (h := ?_)
                    refine pure_y 14 (some 90) spec_SegHas.b38_ (any_of HT_.out (by kernel_rfl)) (h := ?_)
                    refine pure_y 17 (some 93) spec_SegHas.b39_ (any_of HT_.out (by kernel_rfl)) (h := ?_)
                    refine pure_y 22 (some 98) spec_SegHas.b40_ (any_of HT_.out (by kernel_rfl)) (h := ?_)
                    refine take_y 2 (some 78) spec_SegHas.b41_ rfl (take_ofW HT_.out HW_.out (by kernel_rfl)) hHeld (Or.inl ⟨by rfl, (by rintro w' ⟨s0, s1, s2, s3, s4, s5, s6, s7, s8, s9⟩; go_simp; with_reducible rfl)⟩) (h := ?_)
                    refine pure_y 4 (some 80) spec_SegHas.b42_ (any_of HT_.out (by kernel_rfl)) (h := ?_)
                    refine take_y 5 (some 81) spec_SegHas.b43_ rfl (take_ofW HT_.out HW_.out (by kernel_rfl)) hHeld (Or.inl ⟨by rfl, (by rintro w' ⟨s0, s1, s2, s3, s4, s5, s6, s7, s8, s9⟩; go_simp; with_reducible rfl)⟩) (h := ?_)
                    refine pure_y 7 (some 83) spec_SegHas.b44_ (any_of HT_.out (by kernel_rfl)) (h := ?_)
                    refine pure_y 8 (some 84) spec_SegHas.b45_ (any_of HT_.out (by kernel_rfl)) (h := ?_)
                    refine take_y 9 (some 85) spec_SegHas.b46_ rfl (take_ofW HT_.out HW_.out (by kernel_rfl)) hHeld (Or.inl ⟨by rfl, (by rintro w' ⟨s0, s1, s2, s3, s4, s5, s6, s7, s8, s9⟩; go_simp; with_reducible rfl)⟩) (h := ?_)
                    refine pure_y 10 (some 86) spec_SegHas.b47_ (any_of HT_.out (by kernel_rfl)) (h := ?_)
                    refine take_y 11 (some 87) spec_SegHas.b48_ rfl (take_ofW HT_.out HW_.out (by kernel_rfl)) hHeld (Or.inl ⟨by rfl, (by rintro w' ⟨s0, s1, s2, s3, s4, s5, s6, s7, s8, s9⟩; go_simp; with_reducible rfl)⟩) (h := ?_)
                    refine take_y 13 (some 89) spec_SegHas.b49_ rfl (take_ofW HT_.out HW_.out (by kernel_rfl)) hHeld (Or.inl ⟨by rfl, (by rintro w' ⟨s0, s1, s2, s3, s4, s5, s6, s7, s8, s9⟩; go_simp; with_reducible rfl)⟩) (h := ?_)
                    refine pure_y 15 (some 91) spec_SegHas.b50_ (any_of HT_.out (by kernel_rfl)) (h := ?_)
                    refine take_y 16 (some 92) spec_SegHas.b51_ rfl (take_ofW HT_.out HW_.out (by kernel_rfl)) hHeld (Or.inl ⟨by rfl, (by rintro w' ⟨s0, s1, s2, s3, s4, s5, s6, s7, s8, s9⟩; go_simp; with_reducible rfl)⟩) (h := ?_)
                    refine pure_y 18 (some 94) spec_SegHas.b52_ (any_of HT_.out (by kernel_rfl)) (h := ?_)
                    refine pure_y 19 (some 95) spec_SegHas.b53_ (any_of HT_.out (by kernel_rfl)) (h := ?_)
                    refine take_y 20 (some 96) spec_SegHas.b54_ rfl (take_ofW HT_.out HW_.out (by kernel_rfl)) hHeld (Or.inl ⟨by rfl, (by rintro w' ⟨s0, s1, s2, s3, s4, s5, s6, s7, s8, s9⟩; go_simp; with_reducible rfl)⟩) (h := ?_)
                    refine pure_y 21 (some 97) spec_SegHas.b55_ (any_of HT_.out (by kernel_rfl)) (h := ?_)
                    refine pure_y 23 (some 99) spec_SegHas.b56_ (any_of HT_.out (by kernel_rfl)) (h := ?_)
                    refine done_ (done_of HT_.out (by kernel_rfl)) ?_
                    try go_wp2
                    go_roundg k3
                    case measure => have := HJ5.out; have := HK2.out; have := HK3.out; omega
                    case rel => exact ⟨(wrap64 (x14_3 + 1)), (by first | rfl | (simp; done) | (simp [*]; done)), H', ⟨by have := HJ5.out; have := HK2.out; have := HK3.out; omega⟩, ⟨by (with_reducible repeat (first | apply Kd.R_alloc | apply Kd.R_drewN | apply Kd.R_drew)); exact HO_11.out⟩, bk_ BK318, ⟨sq_below1 HB.out GE318.out⟩⟩
                   ·
                    rw [if_neg c36] at H; have c36b0 : ((wrap64 ((rd l3 ((rd_T55 (rd_L7 l2_0 x12_2) x14_3).f0)) + ((rd_T55 (rd_L7 l2_0 x12_2) x14_3).f1))) == (wrap64 ((rd l3 ((rd_T55 (rd_L7 l2_0 x12_2) 0).f0)) + ((rd_T55 (rd_L7 l2_0 x12_2) 0).f1)))) = false := beq_eq_false_iff_ne.mpr c36; have c36b1 : ((wrap64 ((rd l3 ((rd_T55 (rd_L7 l2_0 x12_2) x14_3).f0)) + ((rd_T55 (rd_L7 l2_0 x12_2) x14_3).f1))) != (wrap64 ((rd l3 ((rd_T55 (rd_L7 l2_0 x12_2) 0).f0)) + ((rd_T55 (rd_L7 l2_0 x12_2) 0).f1)))) = true := bne_iff_ne.mpr c36; obtain rfl := Option.some.inj H; have hcz39_0 := cl_ (v := .slice (some ad325) l2_0.length c2_0) BK318 0; have hcz39_1 := cl_ (v := .slice A2_1 l2_1.length c2_1) BK318 1; have hcz39_2 := cl_ (v := .slice A2_2 l2_2.length c2_2) BK318 2; have hfz39_0 := blk_frozen BK318.out 0; have hfz39_1 := blk_frozen BK318.out 1; have hfz39_2 := blk_frozen BK318.out 2; have p330 : 0 ≤ (x12_2 : Int) := sq_dec; have q330 : x12_2 < (l2_0.length : Int) := sq_dec; obtain ⟨ad330, A330_0, c330_0, e330, hx330_0, hl330_0, hi330_0⟩ := at_L7 HR2_0.out x12_2 p330 q330; obtain rfl : ad325 = ad330 := (by injection e330); replace hx330_0 := (HB.out.cell (World.block_lt_of_cell? w _ hx330_0)).trans hx330_0; have HR330_0 := Aside0.mk hi330_0; have HC330_0 := Aside0.mk hl330_0; clear hi330_0 hl330_0; replace p330 := eq_true p330; replace q330 := eq_true q330
                    try go_wp2
                    replace HO_11 := Aside0.mk (Kd.R_drew HO_11.out); replace BK318 := bd_ BK318; replace HB := hd_ HB; have p331 : 0 ≤ (x12_2 : Int) := sq_dec; have q331 : x12_2 < (l2_0.length : Int) := sq_dec; obtain ⟨ad331, A331_0, c331_0, e331, hx331_0, hl331_0, hi331_0⟩ := at_L7 HR2_0.out x12_2 p331 q331; have hw331_0 := hx331_0; obtain rfl : ad325 = ad331 := (by injection e331); replace hx331_0 := (HB.out.cell (World.block_lt_of_cell? w _ hx331_0)).trans hx331_0; have HR331_0 := Aside0.mk hi331_0; have HC331_0 := Aside0.mk hl331_0; clear hi331_0 hl331_0; replace p331 := eq_true p331; replace q331 := eq_true q331; have p332 : 0 ≤ (x14_3 : Int) := sq_dec; have q332 : x14_3 < ((rd_L7 l2_0 x12_2).length : Int) := sq_dec; obtain ⟨ad332, e332, hx332_0, hx332_1⟩ := at_T55 HR331_0.out x14_3 p332 q332; have hw332_1 := hx332_1; have hw332_0 := hx332_0; cases e332; replace hx332_0 := (HB.out.cell (World.block_lt_of_cell? w _ hx332_0)).trans hx332_0; replace hx332_1 := (HB.out.cell (World.block_lt_of_cell? w _ hx332_1)).trans hx332_1; replace p332 := eq_true p332; replace q332 := eq_true q332; have p333 : 0 ≤ (((rd_T55 (rd_L7 l2_0 x12_2) x14_3).f0) : Int) := sq_dec; have q333 : ((rd_T55 (rd_L7 l2_0 x12_2) x14_3).f0) < (l3.length : Int) := sq_dec; obtain ⟨ad333, e333, hx333_0⟩ := Kd.at_int HR3.out ((rd_T55 (rd_L7 l2_0 x12_2) x14_3).f0) p333 q333; have hw333_0 := hx333_0; obtain rfl : ad327 = ad333 := (by injection e333); replace hx333_0 := (HB.out.cell (World.block_lt_of_cell? w _ hx333_0)).trans hx333_0; replace p333 := eq_true p333; replace q333 := eq_true q333; have p334 : 0 ≤ (x12_2 : Int) := sq_dec; have q334 : x12_2 < (l2_0.length : Int) := sq_dec; obtain ⟨ad334, A334_0, c334_0, e334, hx334_0, hl334_0, hi334_0⟩ := at_L7 HR2_0.out x12_2 p334 q334; have hw334_0 := hx334_0; obtain rfl : ad325 = ad334 := (by injection e334); replace hx334_0 := (HB.out.cell (World.block_lt_of_cell? w _ hx334_0)).trans hx334_0; have HR334_0 := Aside0.mk hi334_0; have HC334_0 := Aside0.mk hl334_0; clear hi334_0 hl334_0; replace p334 := eq_true p334; replace q334 := eq_true q334; have ea_ := Option.some.inj (hx331_0.symm.trans hx334_0)
                    injection ea_ with ea_ en_ ec_
                    subst ea_; subst ec_; clear en_; have p335 : 0 ≤ (x14_3 : Int) := sq_dec; have q335 : x14_3 < ((rd_L7 l2_0 x12_2).length : Int) := sq_dec; obtain ⟨ad335, e335, hx335_0, hx335_1⟩ := at_T55 HR334_0.out x14_3 p335 q335; have hw335_1 := hx335_1; have hw335_0 := hx335_0; cases e335; replace hx335_0 := (HB.out.cell (World.block_lt_of_cell? w _ hx335_0)).trans hx335_0; replace hx335_1 := (HB.out.cell (World.block_lt_of_cell? w _ hx335_1)).trans hx335_1; replace p335 := eq_true p335; replace q335 := eq_true q335; refine start_ (n := 24) (S := fun w' => w'.cell? ⟨gb318, 0, none⟩ = some (.slice (some ad325) l2_0.length c2_0) ∧ w'.cell? ⟨gb318, 1, none⟩ = some (.slice A2_1 l2_1.length c2_1) ∧ w'.cell? ⟨gb318, 2, none⟩ = some (.slice A2_2 l2_2.length c2_2) ∧ w'.cell? (ad325.add (x12_2).toNat) = some (.slice (some ad332) (rd_L7 l2_0 x12_2).length c331_0) ∧ w'.cell? (ad332.add ((x14_3).toNat * 2)) = some (.int .i64 ((rd_T55 (rd_L7 l2_0 x12_2) x14_3).f0)) ∧ w'.cell? ⟨(ad332.add ((x14_3).toNat * 2)).block, (ad332.add ((x14_3).toNat * 2)).off + 1, none⟩ = some (.int .i64 ((rd_T55 (rd_L7 l2_0 x12_2) x14_3).f1)) ∧ w'.cell? (ad327.add (((rd_T55 (rd_L7 l2_0 x12_2) x14_3).f0)).toNat) = some (.int .i64 (rd l3 ((rd_T55 (rd_L7 l2_0 x12_2) x14_3).f0))) ∧ w'.cell? (ad325.add (x12_2).toNat) = some (.slice (some ad332) (rd_L7 l2_0 x12_2).length c331_0) ∧ w'.cell? (ad332.add ((x14_3).toNat * 2)) = some (.int .i64 ((rd_T55 (rd_L7 l2_0 x12_2) x14_3).f0)) ∧ w'.cell? ⟨(ad332.add ((x14_3).toNat * 2)).block, (ad332.add ((x14_3).toNat * 2)).off + 1, none⟩ = some (.int .i64 ((rd_T55 (rd_L7 l2_0 x12_2) x14_3).f1))) (ds := []) spec_SegHas.b32_ (by kernel_rfl) rfl rfl ⟨cl_ BK318 0, cl_ BK318 1, cl_ BK318 2, ((HB.out.cell (World.block_lt_of_cell? w _ hw331_0)).trans hw331_0), ((HB.out.cell (World.block_lt_of_cell? w _ hw332_0)).trans hw332_0), ((HB.out.cell (World.block_lt_of_cell? w _ hw332_1)).trans hw332_1), ((HB.out.cell (World.block_lt_of_cell? w _ hw333_0)).trans hw333_0), ((HB.out.cell (World.block_lt_of_cell? w _ hw334_0)).trans hw334_0), ((HB.out.cell (World.block_lt_of_cell? w _ hw335_0)).trans hw335_0), ((HB.out.cell (World.block_lt_of_cell? w _ hw335_1)).trans hw335_1)⟩ (fun hHeld => ?_); refine with_tabW spec_SegHas.tab11 spec_SegHas.bits11 (fun HT_ HW_ => ?_); generalize wr.drew = w40 at HO_11 BK318 HB HR331_0 HR334_0 hx331_0 hx332_0 hx332_1 hx333_0 hx334_0 hx335_0 hx335_1 hHeld ⊢; refine pure_y 0 (some 76) spec_SegHas.b33_ (any_of HT_.out (by kernel_rfl)) (h := ?_)
                    refine pure_y 1 (some 77) spec_SegHas.b34_ (any_of HT_.out (by kernel_rfl)) (h := ?_)
                    refine pure_y 3 (some 79) spec_SegHas.b35_ (any_of HT_.out (by kernel_rfl)) (h := ?_)
                    refine pure_y 6 (some 82) spec_SegHas.b36_ (any_of HT_.out (by kernel_rfl)) (h := ?_)
                    refine pure_y 12 (some 88) spec_SegHas.b37_ (any_of HT_.out (by kernel_rfl)) (h := ?_)
                    refine pure_y 14 (some 90) spec_SegHas.b38_ (any_of HT_.out (by kernel_rfl)) (h := ?_)
                    refine pure_y 17 (some 93) spec_SegHas.b39_ (any_of HT_.out (by kernel_rfl)) (h := ?_)
                    refine pure_y 22 (some 98) spec_SegHas.b40_ (any_of HT_.out (by kernel_rfl)) (h := ?_)
                    refine take_y 2 (some 78) spec_SegHas.b41_ rfl (take_ofW HT_.out HW_.out (by kernel_rfl)) hHeld (Or.inl ⟨by rfl, (by rintro w' ⟨s0, s1, s2, s3, s4, s5, s6, s7, s8, s9⟩; go_simp; with_reducible rfl)⟩) (h := ?_)
                    refine pure_y 4 (some 80) spec_SegHas.b42_ (any_of HT_.out (by kernel_rfl)) (h := ?_)
                    refine take_y 5 (some 81) spec_SegHas.b43_ rfl (take_ofW HT_.out HW_.out (by kernel_rfl)) hHeld (Or.inl ⟨by rfl, (by rintro w' ⟨s0, s1, s2, s3, s4, s5, s6, s7, s8, s9⟩; go_simp; with_reducible rfl)⟩) (h := ?_)
                    refine pure_y 7 (some 83) spec_SegHas.b44_ (any_of HT_.out (by kernel_rfl)) (h := ?_)
                    refine pure_y 8 (some 84) spec_SegHas.b45_ (any_of HT_.out (by kernel_rfl)) (h := ?_)
                    refine take_y 9 (some 85) spec_SegHas.b46_ rfl (take_ofW HT_.out HW_.out (by kernel_rfl)) hHeld (Or.inl ⟨by rfl, (by rintro w' ⟨s0, s1, s2, s3, s4, s5, s6, s7, s8, s9⟩; go_simp; with_reducible rfl)⟩) (h := ?_)
                    refine pure_y 10 (some 86) spec_SegHas.b47_ (any_of HT_.out (by kernel_rfl)) (h := ?_)
                    refine take_y 11 (some 87) spec_SegHas.b48_ rfl (take_ofW HT_.out HW_.out (by kernel_rfl)) hHeld (Or.inl ⟨by rfl, (by rintro w' ⟨s0, s1, s2, s3, s4, s5, s6, s7, s8, s9⟩; go_simp; with_reducible rfl)⟩) (h := ?_)
                    refine take_y 13 (some 89) spec_SegHas.b49_ rfl (take_ofW HT_.out HW_.out (by kernel_rfl)) hHeld (Or.inl ⟨by rfl, (by rintro w' ⟨s0, s1, s2, s3, s4, s5, s6, s7, s8, s9⟩; go_simp; with_reducible rfl)⟩) (h := ?_)
                    refine pure_y 15 (some 91) spec_SegHas.b50_ (any_of HT_.out (by kernel_rfl)) (h := ?_)
                    refine take_y 16 (some 92) spec_SegHas.b51_ rfl (take_ofW HT_.out HW_.out (by kernel_rfl)) hHeld (Or.inl ⟨by rfl, (by rintro w' ⟨s0, s1, s2, s3, s4, s5, s6, s7, s8, s9⟩; go_simp; with_reducible rfl)⟩) (h := ?_)
                    refine pure_y 18 (some 94) spec_SegHas.b52_ (any_of HT_.out (by kernel_rfl)) (h := ?_)
                    refine pure_y 19 (some 95) spec_SegHas.b53_ (any_of HT_.out (by kernel_rfl)) (h := ?_)
                    refine take_y 20 (some 96) spec_SegHas.b54_ rfl (take_ofW HT_.out HW_.out (by kernel_rfl)) hHeld (Or.inl ⟨by rfl, (by rintro w' ⟨s0, s1, s2, s3, s4, s5, s6, s7, s8, s9⟩; go_simp; with_reducible rfl)⟩) (h := ?_)
                    refine pure_y 21 (some 97) spec_SegHas.b55_ (any_of HT_.out (by kernel_rfl)) (h := ?_)
                    refine pure_y 23 (some 99) spec_SegHas.b56_ (any_of HT_.out (by kernel_rfl)) (h := ?_)
                    refine done_ (done_of HT_.out (by kernel_rfl)) ?_
                    try go_wp2
                    go_ret
                    exact ⟨by first | rfl | (simp [errW_none, errW_some] <;> rfl) | (simp [*, errW_none, errW_some] <;> rfl), sq_below1 HB.out GE318.out⟩
                  ·
                   rw [if_neg c35] at H; exact absurd H (by simp)
                 ·
                  rw [if_neg c34] at H; exact absurd H (by simp)
                ·
                 rw [if_neg c33] at H; exact absurd H (by simp)
               ·
                rw [if_neg c32] at H; have c32b0 : decide (x14_3 < ((rd_L7 l2_0 x12_2).length : Int)) = false := decide_eq_false c32; clear c32
                by_cases c41 : x11_2.length < 17592186044416
                ·
                 rw [if_pos c41] at H; have LMc41 := Aside0.mk c41; clear c41; obtain ⟨y336, hy336⟩ : ∃ y_ : List Int, y_ = (x11_2 ++ [(wrap64 ((rd l3 ((rd_T55 (rd_L7 l2_0 x12_2) 0).f0)) + ((rd_T55 (rd_L7 l2_0 x12_2) 0).f1)))]) := ⟨_, rfl⟩; replace H : (spec_SegHas.l0 k3 l3 l4 y336 (wrap64 (x12_2 + 1)) l2_0 l2_1 l2_2) = some r := by first | (rw [hy336]; with_reducible exact H) | (have H2_ := (Option.bind_some _ _).symm.trans H; rw [hy336]; with_reducible exact H2_) | (have H2_ := (Option.bind_some _ _).symm.trans H; with_reducible exact H2_) | with_reducible exact H | (rw [hy336]; exact H) | exact H
                 have Ny336 := Aside0.mk hy336; clear hy336; have H' := Aside0.mk H; clear H; have hcz42_0 := cl_ (v := .slice (some ad325) l2_0.length c2_0) BK318 0; have hcz42_1 := cl_ (v := .slice A2_1 l2_1.length c2_1) BK318 1; have hcz42_2 := cl_ (v := .slice A2_2 l2_2.length c2_2) BK318 2; have hfz42_0 := blk_frozen BK318.out 0; have hfz42_1 := blk_frozen BK318.out 1; have hfz42_2 := blk_frozen BK318.out 2; have p330 : 0 ≤ (x12_2 : Int) := sq_dec; have q330 : x12_2 < (l2_0.length : Int) := sq_dec; obtain ⟨ad330, A330_0, c330_0, e330, hx330_0, hl330_0, hi330_0⟩ := at_L7 HR2_0.out x12_2 p330 q330; obtain rfl : ad325 = ad330 := (by injection e330); replace hx330_0 := (HB.out.cell (World.block_lt_of_cell? w _ hx330_0)).trans hx330_0; have HR330_0 := Aside0.mk hi330_0; have HC330_0 := Aside0.mk hl330_0; clear hi330_0 hl330_0; replace p330 := eq_true p330; replace q330 := eq_true q330
                 go_wp2_with (first | ((with_reducible refine gate_builtin (b := .append) (xs := #[.tmp 100, .tmp 102]) rfl ?_); (try (refine gate_guard (by rfl) ?_; dsimp only)); at_builtin; refine Kd.R_append (Kd.int .i64) (w0 := w) w.heap.size rfl (.tmp 100) (.tmp 102) 36 3 (.int .i64 0) 8 rfl Tryd.underlying36 info3 rfl (by decide) (by omega) u11 x11_2 (wrap64 ((rd l3 ((rd_T55 (rd_L7 l2_0 x12_2) 0).f0)) + ((rd_T55 (rd_L7 l2_0 x12_2) 0).f1))) [.int .i64 (wrap64 ((rd l3 ((rd_T55 (rd_L7 l2_0 x12_2) 0).f0)) + ((rd_T55 (rd_L7 l2_0 x12_2) 0).f1)))] (fun _ => True) (fun _ => False) rfl rfl ?aP (fun _ hk => hk.elim) ?aF ?aO ?aB ?aS ?aL ?_; (case aP => exact rfl); (case aB => exact (sq_below1 HB.out GE318.out)); (case aF => exact (fun _ _ => trivial)); (case aO => exact (sq_row HO_11.out)); (case aS => exact (below_size (sq_below1 HB.out GE318.out))); (case aL => have := LMc41.out; omega); intro v337 w43 ho hb hg hat; rw [← Ny336.out] at ho; have n0_ := Aside0.mk (blk_grown (g := gb318) (o := .cells #[.slice (some ad325) l2_0.length c2_0, .slice A2_1 l2_1.length c2_1, .slice A2_2 l2_2.length c2_2] 32 (0, 0)) (sq_blk BK318.out) hg (Kd.R_ne HO_11.out BK318.out (by decide))); have n1_ := Aside0.mk (hb); have n2_ := Aside0.mk (ho); clear BK318; clear HB; clear HO_11; have BK318 := n0_; have HB := n1_; have HO338 := n2_; clear n0_ n1_ n2_; clear ho hb hg hat))
                 go_roundg k3
                 case measure => have := HJ5.out; have := HK2.out; have := HK3.out; omega
                 case rel => exact ⟨(y336), (wrap64 (x12_2 + 1)), (by first | rfl | (simp; done) | (simp [*]; done)), H', ⟨by have := HJ5.out; have := HK2.out; have := HK3.out; omega⟩, ⟨by (with_reducible repeat (first | apply Kd.R_alloc | apply Kd.R_drewN | apply Kd.R_drew)); exact HO338.out⟩, bk_ BK318, ⟨sq_below1 HB.out GE318.out⟩⟩
                ·
                 rw [if_neg c41] at H; exact absurd H (by simp)
              ·
               rw [if_neg c31] at H; exact absurd H (by simp)
             ·
              rw [if_neg c30] at H; exact absurd H (by simp)
          ·
           rw [if_neg c27] at H; exact absurd H (by simp)
         ·
          rw [if_neg c26] at H; exact absurd H (by simp)
        ·
         rw [if_neg c25] at H; exact absurd H (by simp)
       ·
        rw [if_neg c24] at H; exact absurd H (by simp)
      ·
       rw [if_neg c23] at H; have c23b0 : decide (x12_2 < (l2_0.length : Int)) = false := decide_eq_false c23; clear c23; have H' := Aside0.mk H; clear H; have hcz44_0 := cl_ (v := .slice A2_0 l2_0.length c2_0) BK318 0; have hcz44_1 := cl_ (v := .slice A2_1 l2_1.length c2_1) BK318 1; have hcz44_2 := cl_ (v := .slice A2_2 l2_2.length c2_2) BK318 2; have hfz44_0 := blk_frozen BK318.out 0; have hfz44_1 := blk_frozen BK318.out 1; have hfz44_2 := blk_frozen BK318.out 2
       go_wp2
       go_loopg [15] k2 (fun kq v15 w' => ∃ (x15_3 : Int), v15 = .int .i64 x15_3 ∧ Aside0 (spec_SegHas.l2 kq l4 x11_2 x15_3 l2_0 l2_1 l2_2 = some r) ∧ Aside0 (kq ≤ k2) ∧ Aside0 (Kd.R (Kd.int .i64) 3 w' w.heap.size (fun _ => True) u11 x11_2) ∧ Aside0 (w'.heap[gb318]? = some (.cells #[(.slice A2_0 l2_0.length c2_0), (.slice A2_1 l2_1.length c2_1), (.slice A2_2 l2_2.length c2_2)] 32 (0, 0))) ∧ Aside0 (Below w.heap.size w w'))
       case atStart => exact ⟨(0), (by first | rfl | (simp; done) | (simp [*]; done)), H', ⟨Nat.le_refl _⟩, ⟨by (with_reducible repeat (first | apply Kd.R_alloc | apply Kd.R_drewN | apply Kd.R_drew)); exact HO_11.out⟩, bk_ BK318, ⟨sq_below1 HB.out GE318.out⟩⟩
       case round =>
        clear H'
        try clear c2
        try clear p2
        try clear c3
        try clear p3
        try clear q3
        try clear hx3
        try clear c4
        try clear p6
        try clear c23
        try clear c23b0
        try clear c24
        try clear c25
        try clear c26
        try clear c27
        try clear c30
        try clear c31
        try clear c32
        try clear c32b0
        try clear c33
        try clear p33
        try clear q33
        try clear hx33
        try clear c34
        try clear c35
        try clear c36
        try clear c36b0
        try clear c36b1
        try clear c41
        try clear hcz39_0
        try clear hcz39_1
        try clear hcz39_2
        try clear hcz42_0
        try clear hcz42_1
        try clear hcz42_2
        try clear hcz44_0
        try clear hcz44_1
        try clear hcz44_2
        try clear hfz39_0
        try clear hfz39_1
        try clear hfz39_2
        try clear hfz42_0
        try clear hfz42_1
        try clear hfz42_2
        try clear hfz44_0
        try clear hfz44_1
        try clear hfz44_2
        try clear hx330_0
        try clear hx331_0
        try clear hx332_0
        try clear hx332_1
        try clear hx333_0
        try clear hx334_0
        try clear hx335_0
        try clear hx335_1
        try clear p330
        try clear p331
        try clear p332
        try clear p333
        try clear p334
        try clear p335
        try clear q330
        try clear q331
        try clear q332
        try clear q333
        try clear q334
        try clear q335
        obtain ⟨x15_3, rfl, HA, HK3, HO_11, BK318, HB⟩ := hrel; cases gk with
        | zero => exact absurd HA.out (by simp [spec_SegHas.l2])
        | succ k3 =>
         have H := HA.out; clear HA; simp only [spec_SegHas.l2] at H
         by_cases c45 : x15_3 < (l2_1.length : Int)
         ·
          rw [if_pos c45] at H; have c45b0 : decide (x15_3 < (l2_1.length : Int)) = true := decide_eq_true c45; clear c45
          by_cases c46 : 0 ≤ x15_3
          ·
           rw [if_pos c46] at H; have c46b0 : decide (0 ≤ x15_3) = true := decide_eq_true c46; clear c46
           by_cases c47 : x15_3 < (x11_2.length : Int)
           ·
            rw [if_pos c47] at H; have c47b0 : decide (x15_3 < (x11_2.length : Int)) = true := decide_eq_true c47; clear c47; obtain ⟨ji48, hji48⟩ : ∃ j_ : Int, (wrap64 (x15_3 + 1)) = j_ := ⟨_, rfl⟩; replace H : (if 0 ≤ (ji48) then (if (ji48) < (x11_2.length : Int) then (if (rd x11_2 x15_3) > (rd x11_2 (ji48)) then (some false) else (if (rd x11_2 x15_3) = (rd x11_2 (ji48)) then (if x15_3 < (l2_2.length : Int) then (if rdOf false l2_2 x15_3 = true then (spec_SegHas.l2 k3 l4 x11_2 ji48 l2_0 l2_1 l2_2) else (some false)) else (none)) else (spec_SegHas.l2 k3 l4 x11_2 ji48 l2_0 l2_1 l2_2))) else (none)) else (none)) = some r := by first | (rw [hji48] at H; exact H) | (simp only [hji48] at H ⊢; exact H)
            have hji48w : (IntKind.i64.wrap (x15_3 + 1)) = ji48 := (i64_w _).trans hji48
            by_cases c49 : 0 ≤ (ji48)
            ·
             rw [if_pos c49] at H; have c49b0 : decide (0 ≤ (ji48)) = true := decide_eq_true c49; clear c49
             by_cases c50 : (ji48) < (x11_2.length : Int)
             ·
              rw [if_pos c50] at H; have c50b0 : decide ((ji48) < (x11_2.length : Int)) = true := decide_eq_true c50; clear c50
              by_cases c51 : (rd x11_2 x15_3) > (rd x11_2 (ji48))
              ·
               rw [if_pos c51] at H; have c51b0 : decide ((rd x11_2 (ji48)) < (rd x11_2 x15_3)) = true := decide_eq_true c51; clear c51; obtain rfl := Option.some.inj H; have hcz52_0 := cl_ (v := .slice A2_0 l2_0.length c2_0) BK318 0; have hcz52_1 := cl_ (v := .slice A2_1 l2_1.length c2_1) BK318 1; have hcz52_2 := cl_ (v := .slice A2_2 l2_2.length c2_2) BK318 2; have hfz52_0 := blk_frozen BK318.out 0; have hfz52_1 := blk_frozen BK318.out 1; have hfz52_2 := blk_frozen BK318.out 2
               try go_wp2
               replace HO_11 := Aside0.mk (Kd.R_drew HO_11.out); replace HB := hd_ HB; obtain ⟨Ao54, co54, eo54⟩ := Kd.R_slice HO_11.out
               (first | subst eo54 | (injection eo54 with f1_ f2_ f3_; have f4_ := f1_.symm; have f5_ := f3_.symm; clear f1_ f2_ f3_; subst f4_; subst f5_))
               have p339 : 0 ≤ (x15_3 : Int) := sq_dec; have q339 : x15_3 < (x11_2.length : Int) := sq_dec; obtain ⟨ad339, e339, hx339_0⟩ := Kd.at_int (Kd.R_reads' HO_11.out).2.2 x15_3 p339 q339; cases e339; replace p339 := eq_true p339; replace q339 := eq_true q339; have p340 : 0 ≤ ((ji48) : Int) := sq_dec; have q340 : (ji48) < (x11_2.length : Int) := sq_dec; obtain ⟨ad340, e340, hx340_0⟩ := Kd.at_int (Kd.R_reads' HO_11.out).2.2 (ji48) p340 q340; obtain rfl : ad339 = ad340 := (by injection e340); replace p340 := eq_true p340; replace q340 := eq_true q340; refine start_ (n := 30) (S := fun w' => w'.cell? (ad339.add (x15_3).toNat) = some (.int .i64 (rd x11_2 x15_3)) ∧ w'.cell? (ad339.add ((ji48)).toNat) = some (.int .i64 (rd x11_2 (ji48)))) (ds := []) spec_SegHas.b0_ (by kernel_rfl) rfl rfl ⟨hx339_0, hx340_0⟩ (fun hHeld => ?_); refine with_tabW spec_SegHas.tab17 spec_SegHas.bits17 (fun HT_ HW_ => ?_); generalize wr.drew = w53 at HO_11 HB hx339_0 hx340_0 hHeld ⊢; refine pure_y 0 (some 111) spec_SegHas.b1_ (any_of HT_.out (by kernel_rfl)) (h := ?_)
               refine pure_y 1 (some 112) spec_SegHas.b2_ (any_of HT_.out (by kernel_rfl)) (h := ?_)
               refine pure_y 2 (some 113) spec_SegHas.b3_ (any_of HT_.out (by kernel_rfl)) (h := ?_)
               refine pure_y 4 (some 115) spec_SegHas.b4_ (any_of HT_.out (by kernel_rfl)) (h := ?_)
               refine pure_y 5 (some 116) spec_SegHas.b5_ (any_of HT_.out (by kernel_rfl)) (h := ?_)
               refine pure_y 6 (some 117) spec_SegHas.b6_ (any_of HT_.out (by kernel_rfl)) (h := ?_)
               refine pure_y 7 (some 118) spec_SegHas.b7_ (any_of HT_.out (by kernel_rfl)) (h := ?_)
               refine take_y 3 (some 114) spec_SegHas.b8_ rfl (take_ofW HT_.out HW_.out (by kernel_rfl)) hHeld (Or.inl ⟨by rfl, (by rintro w' ⟨s0, s1⟩; go_simp; with_reducible rfl)⟩) (h := ?_)
               refine take_y 8 (some 119) spec_SegHas.b9_ rfl (take_ofW HT_.out HW_.out (by kernel_rfl)) hHeld (Or.inl ⟨by rfl, (by rintro w' ⟨s0, s1⟩; go_simp; with_reducible rfl)⟩) (h := ?_)
               refine pure_y 9 (some 120) spec_SegHas.b10_ (any_of HT_.out (by kernel_rfl)) (h := ?_)
               refine pure_y 10 (some 121) spec_SegHas.b11_ (any_of HT_.out (by kernel_rfl)) (h := ?_)
               refine pure_n 11 (some 122) spec_SegHas.b12_ (any_of HT_.out (by kernel_rfl)) (h := ?_)
               refine pure_n 12 (some 123) spec_SegHas.b13_ (any_of HT_.out (by kernel_rfl)) (h := ?_)
               refine pure_n 13 (some 124) spec_SegHas.b14_ (any_of HT_.out (by kernel_rfl)) (h := ?_)
               refine pure_n 14 (some 125) #[true, true, true, true, true, true, true, true, true, true, true, true, true, true, true, false, false, false, false, false, false, false, false, false, false, false, false, false, false, false] (any_of HT_.out (by kernel_rfl)) (h := ?_)
               refine pure_n 15 (some 126) #[true, true, true, true, true, true, true, true, true, true, true, true, true, true, true, true, false, false, false, false, false, false, false, false, false, false, false, false, false, false] (any_of HT_.out (by kernel_rfl)) (h := ?_)
               refine pure_n 16 (some 127) #[true, true, true, true, true, true, true, true, true, true, true, true, true, true, true, true, true, false, false, false, false, false, false, false, false, false, false, false, false, false] (any_of HT_.out (by kernel_rfl)) (h := ?_)
               refine pure_n 17 (some 128) #[true, true, true, true, true, true, true, true, true, true, true, true, true, true, true, true, true, true, false, false, false, false, false, false, false, false, false, false, false, false] (any_of HT_.out (by kernel_rfl)) (h := ?_)
               refine pure_n 18 (some 129) spec_SegHas.b19_ (any_of HT_.out (by kernel_rfl)) (h := ?_)
               refine pure_n 19 (some 130) spec_SegHas.b20_ (any_of HT_.out (by kernel_rfl)) (h := ?_)
               refine pure_n 20 (some 131) spec_SegHas.b21_ (any_of HT_.out (by kernel_rfl)) (h := ?_)
               refine pure_n 21 (some 132) spec_SegHas.b22_ (any_of HT_.out (by kernel_rfl)) (h := ?_)
               refine pure_n 22 (some 133) spec_SegHas.b23_ (any_of HT_.out (by kernel_rfl)) (h := ?_)
               refine pure_n 23 (some 134) spec_SegHas.b24_ (any_of HT_.out (by kernel_rfl)) (h := ?_)
               refine pure_n 24 (some 135) spec_SegHas.b26_ (any_of HT_.out (by kernel_rfl)) (h := ?_)
               refine pure_n 25 (some 136) spec_SegHas.b27_ (any_of HT_.out (by kernel_rfl)) (h := ?_)
               refine pure_n 26 (some 137) spec_SegHas.b28_ (any_of HT_.out (by kernel_rfl)) (h := ?_)
               refine pure_n 27 (some 138) spec_SegHas.b29_ (any_of HT_.out (by kernel_rfl)) (h := ?_)
               refine pure_n 28 (some 139) spec_SegHas.b30_ (any_of HT_.out (by kernel_rfl)) (h := ?_)
               refine pure_y 29 (some 140) spec_SegHas.b31_ (any_of HT_.out (by kernel_rfl)) (h := ?_)
               refine done_ (done_of HT_.out (by kernel_rfl)) ?_
               try go_wp2
               go_ret
               exact ⟨by first | rfl | (simp [errW_none, errW_some] <;> rfl) | (simp only [← hji48]; first | rfl | (simp [errW_none, errW_some] <;> rfl)) | (simp [*, errW_none, errW_some] <;> rfl), sq_below HB.out⟩
              ·
               rw [if_neg c51] at H; have c51b0 : decide ((rd x11_2 (ji48)) < (rd x11_2 x15_3)) = false := decide_eq_false c51; clear c51
               by_cases c55 : (rd x11_2 x15_3) = (rd x11_2 (ji48))
               ·
                rw [if_pos c55] at H; have c55b0 : ((rd x11_2 x15_3) == (rd x11_2 (ji48))) = true := beq_iff_eq.mpr c55; have c55b1 : ((rd x11_2 x15_3) != (rd x11_2 (ji48))) = false := bne_eq_false_iff_eq.mpr c55; clear c55
                by_cases c56 : x15_3 < (l2_2.length : Int)
                ·
                 rw [if_pos c56] at H; have c56b0 : decide (x15_3 < (l2_2.length : Int)) = true := decide_eq_true c56; clear c56; obtain ⟨bq57, hbq57⟩ : ∃ b_ : Bool, b_ = (rdOf false l2_2 x15_3) := ⟨_, rfl⟩; replace H : (if bq57 = true then (spec_SegHas.l2 k3 l4 x11_2 ji48 l2_0 l2_1 l2_2) else (some false)) = some r := by rw [← hbq57] at H; exact H
                 have Nbq57 := Aside0.mk hbq57; clear hbq57
                 by_cases c58 : bq57 = true
                 ·
                  subst c58; have H1 := ifp_ H
                  clear H; have H := H1; clear H1; have H' := Aside0.mk H; clear H; have hcz59_0 := cl_ (v := .slice A2_0 l2_0.length c2_0) BK318 0; have hcz59_1 := cl_ (v := .slice A2_1 l2_1.length c2_1) BK318 1; have hcz59_2 := cl_ (v := .slice A2_2 l2_2.length c2_2) BK318 2; have hfz59_0 := blk_frozen BK318.out 0; have hfz59_1 := blk_frozen BK318.out 1; have hfz59_2 := blk_frozen BK318.out 2
                  try go_wp2
                  replace HO_11 := Aside0.mk (Kd.R_drew HO_11.out); replace BK318 := bd_ BK318; replace HB := hd_ HB; obtain ⟨Ao61, co61, eo61⟩ := Kd.R_slice HO_11.out
                  (first | subst eo61 | (injection eo61 with f1_ f2_ f3_; have f4_ := f1_.symm; have f5_ := f3_.symm; clear f1_ f2_ f3_; subst f4_; subst f5_))
                  have p339 : 0 ≤ (x15_3 : Int) := sq_dec; have q339 : x15_3 < (x11_2.length : Int) := sq_dec; obtain ⟨ad339, e339, hx339_0⟩ := Kd.at_int (Kd.R_reads' HO_11.out).2.2 x15_3 p339 q339; cases e339; replace p339 := eq_true p339; replace q339 := eq_true q339; have p340 : 0 ≤ ((ji48) : Int) := sq_dec; have q340 : (ji48) < (x11_2.length : Int) := sq_dec; obtain ⟨ad340, e340, hx340_0⟩ := Kd.at_int (Kd.R_reads' HO_11.out).2.2 (ji48) p340 q340; obtain rfl : ad339 = ad340 := (by injection e340); replace p340 := eq_true p340; replace q340 := eq_true q340; have p341 : 0 ≤ (x15_3 : Int) := sq_dec; have q341 : x15_3 < (x11_2.length : Int) := sq_dec; obtain ⟨ad341, e341, hx341_0⟩ := Kd.at_int (Kd.R_reads' HO_11.out).2.2 x15_3 p341 q341; obtain rfl : ad339 = ad341 := (by injection e341); replace p341 := eq_true p341; replace q341 := eq_true q341; have p342 : 0 ≤ ((ji48) : Int) := sq_dec; have q342 : (ji48) < (x11_2.length : Int) := sq_dec; obtain ⟨ad342, e342, hx342_0⟩ := Kd.at_int (Kd.R_reads' HO_11.out).2.2 (ji48) p342 q342; obtain rfl : ad339 = ad342 := (by injection e342); replace p342 := eq_true p342; replace q342 := eq_true q342; have p343 : 0 ≤ (x15_3 : Int) := sq_dec; have q343 : x15_3 < (l2_2.length : Int) := sq_dec; obtain ⟨ad343, e343, hx343_0⟩ := Kd.at_bool HR2_2.out x15_3 p343 q343; have hw343_0 := hx343_0
                  (try rw [← Nbq57.out] at hx343_0)
                  (try rw [← Nbq57.out] at hw343_0)
                  cases e343; replace hx343_0 := (HB.out.cell (World.block_lt_of_cell? w _ hx343_0)).trans hx343_0; replace p343 := eq_true p343; replace q343 := eq_true q343; refine start_ (n := 30) (S := fun w' => w'.cell? ⟨gb318, 0, none⟩ = some (.slice A2_0 l2_0.length c2_0) ∧ w'.cell? ⟨gb318, 1, none⟩ = some (.slice A2_1 l2_1.length c2_1) ∧ w'.cell? ⟨gb318, 2, none⟩ = some (.slice (some ad343) l2_2.length c2_2) ∧ w'.cell? (ad339.add (x15_3).toNat) = some (.int .i64 (rd x11_2 x15_3)) ∧ w'.cell? (ad339.add ((ji48)).toNat) = some (.int .i64 (rd x11_2 (ji48))) ∧ w'.cell? (ad339.add (x15_3).toNat) = some (.int .i64 (rd x11_2 x15_3)) ∧ w'.cell? (ad339.add ((ji48)).toNat) = some (.int .i64 (rd x11_2 (ji48))) ∧ w'.cell? (ad343.add (x15_3).toNat) = some (.bool true)) (ds := []) spec_SegHas.b0_ (by kernel_rfl) rfl rfl ⟨cl_ BK318 0, cl_ BK318 1, cl_ BK318 2, hx339_0, hx340_0, hx341_0, hx342_0, ((HB.out.cell (World.block_lt_of_cell? w _ hw343_0)).trans hw343_0)⟩ (fun hHeld => ?_); refine with_tabW spec_SegHas.tab17 spec_SegHas.bits17 (fun HT_ HW_ => ?_); generalize wr.drew = w60 at HO_11 BK318 HB hx339_0 hx340_0 hx341_0 hx342_0 hx343_0 hHeld ⊢; refine pure_y 0 (some 111) spec_SegHas.b1_ (any_of HT_.out (by kernel_rfl)) (h := ?_)
                  refine pure_y 1 (some 112) spec_SegHas.b2_ (any_of HT_.out (by kernel_rfl)) (h := ?_)
                  refine pure_y 2 (some 113) spec_SegHas.b3_ (any_of HT_.out (by kernel_rfl)) (h := ?_)
                  refine pure_y 4 (some 115) spec_SegHas.b4_ (any_of HT_.out (by kernel_rfl)) (h := ?_)
                  refine pure_y 5 (some 116) spec_SegHas.b5_ (any_of HT_.out (by kernel_rfl)) (h := ?_)
                  refine pure_y 6 (some 117) spec_SegHas.b6_ (any_of HT_.out (by kernel_rfl)) (h := ?_)
                  refine pure_y 7 (some 118) spec_SegHas.b7_ (any_of HT_.out (by kernel_rfl)) (h := ?_)
                  refine take_y 3 (some 114) spec_SegHas.b8_ rfl (take_ofW HT_.out HW_.out (by kernel_rfl)) hHeld (Or.inl ⟨by rfl, (by rintro w' ⟨s0, s1, s2, s3, s4, s5, s6, s7⟩; go_simp; with_reducible rfl)⟩) (h := ?_)
                  refine take_y 8 (some 119) spec_SegHas.b9_ rfl (take_ofW HT_.out HW_.out (by kernel_rfl)) hHeld (Or.inl ⟨by rfl, (by rintro w' ⟨s0, s1, s2, s3, s4, s5, s6, s7⟩; go_simp; with_reducible rfl)⟩) (h := ?_)
                  refine pure_y 9 (some 120) spec_SegHas.b10_ (any_of HT_.out (by kernel_rfl)) (h := ?_)
                  refine pure_y 10 (some 121) spec_SegHas.b11_ (any_of HT_.out (by kernel_rfl)) (h := ?_)
                  refine pure_y 11 (some 122) spec_SegHas.b12_ (any_of HT_.out (by kernel_rfl)) (h := ?_)
                  refine pure_y 12 (some 123) spec_SegHas.b13_ (any_of HT_.out (by kernel_rfl)) (h := ?_)
                  refine pure_y 13 (some 124) spec_SegHas.b14_ (any_of HT_.out (by kernel_rfl)) (h := ?_)
                  refine pure_y 15 (some 126) spec_SegHas.b15_ (any_of HT_.out (by kernel_rfl)) (h := ?_)
                  refine pure_y 16 (some 127) spec_SegHas.b16_ (any_of HT_.out (by kernel_rfl)) (h := ?_)
                  refine pure_y 17 (some 128) spec_SegHas.b17_ (any_of HT_.out (by kernel_rfl)) (h := ?_)
                  refine pure_y 18 (some 129) spec_SegHas.b18_ (any_of HT_.out (by kernel_rfl)) (h := ?_)
                  refine take_y 14 (some 125) spec_SegHas.b19_ rfl (take_ofW HT_.out HW_.out (by kernel_rfl)) hHeld (Or.inl ⟨by rfl, (by rintro w' ⟨s0, s1, s2, s3, s4, s5, s6, s7⟩; go_simp; with_reducible rfl)⟩) (h := ?_)
                  refine take_y 19 (some 130) spec_SegHas.b20_ rfl (take_ofW HT_.out HW_.out (by kernel_rfl)) hHeld (Or.inl ⟨by rfl, (by rintro w' ⟨s0, s1, s2, s3, s4, s5, s6, s7⟩; go_simp; with_reducible rfl)⟩) (h := ?_)
                  refine pure_y 20 (some 131) spec_SegHas.b21_ (any_of HT_.out (by kernel_rfl)) (h := ?_)
                  refine pure_y 21 (some 132) spec_SegHas.b22_ (any_of HT_.out (by kernel_rfl)) (h := ?_)
                  refine pure_y 22 (some 133) spec_SegHas.b23_ (any_of HT_.out (by kernel_rfl)) (h := ?_)
                  refine pure_y 24 (some 135) spec_SegHas.b25_ (any_of HT_.out (by kernel_rfl)) (h := ?_)
                  refine take_y 23 (some 134) spec_SegHas.b26_ rfl (take_ofW HT_.out HW_.out (by kernel_rfl)) hHeld (Or.inl ⟨by rfl, (by rintro w' ⟨s0, s1, s2, s3, s4, s5, s6, s7⟩; go_simp; with_reducible rfl)⟩) (h := ?_)
                  refine pure_y 25 (some 136) spec_SegHas.b27_ (any_of HT_.out (by kernel_rfl)) (h := ?_)
                  refine take_y 26 (some 137) spec_SegHas.b28_ rfl (take_ofW HT_.out HW_.out (by kernel_rfl)) hHeld (Or.inl ⟨by rfl, (by rintro w' ⟨s0, s1, s2, s3, s4, s5, s6, s7⟩; go_simp; with_reducible rfl)⟩) (h := ?_)
                  refine pure_y 27 (some 138) spec_SegHas.b29_ (any_of HT_.out (by kernel_rfl)) (h := ?_)
                  refine pure_y 28 (some 139) spec_SegHas.b30_ (any_of HT_.out (by kernel_rfl)) (h := ?_)
                  refine pure_y 29 (some 140) spec_SegHas.b31_ (any_of HT_.out (by kernel_rfl)) (h := ?_)
                  refine done_ (done_of HT_.out (by kernel_rfl)) ?_
                  try go_wp2
                  go_roundg k3
                  case measure => have := HJ5.out; have := HK2.out; have := HK3.out; omega
                  case rel => exact ⟨(ji48), (by first | rfl | (simp; done) | (simp only [← hji48] <;> (first | rfl | simp)) | (simp [*]; done)), H', ⟨by have := HJ5.out; have := HK2.out; have := HK3.out; omega⟩, ⟨by (with_reducible repeat (first | apply Kd.R_alloc | apply Kd.R_drewN | apply Kd.R_drew)); exact HO_11.out⟩, bk_ BK318, ⟨sq_below1 HB.out GE318.out⟩⟩
                 ·
                  replace c58 := Bool.eq_false_iff.mpr c58; subst c58; have H1 := ifn_ H
                  clear H; have H := H1; clear H1; obtain rfl := Option.some.inj H; have hcz62_0 := cl_ (v := .slice A2_0 l2_0.length c2_0) BK318 0; have hcz62_1 := cl_ (v := .slice A2_1 l2_1.length c2_1) BK318 1; have hcz62_2 := cl_ (v := .slice A2_2 l2_2.length c2_2) BK318 2; have hfz62_0 := blk_frozen BK318.out 0; have hfz62_1 := blk_frozen BK318.out 1; have hfz62_2 := blk_frozen BK318.out 2
                  try go_wp2
                  replace HO_11 := Aside0.mk (Kd.R_drew HO_11.out); replace BK318 := bd_ BK318; replace HB := hd_ HB; obtain ⟨Ao64, co64, eo64⟩ := Kd.R_slice HO_11.out
                  (first | subst eo64 | (injection eo64 with f1_ f2_ f3_; have f4_ := f1_.symm; have f5_ := f3_.symm; clear f1_ f2_ f3_; subst f4_; subst f5_))
                  have p339 : 0 ≤ (x15_3 : Int) := sq_dec; have q339 : x15_3 < (x11_2.length : Int) := sq_dec; obtain ⟨ad339, e339, hx339_0⟩ := Kd.at_int (Kd.R_reads' HO_11.out).2.2 x15_3 p339 q339; cases e339; replace p339 := eq_true p339; replace q339 := eq_true q339; have p340 : 0 ≤ ((ji48) : Int) := sq_dec; have q340 : (ji48) < (x11_2.length : Int) := sq_dec; obtain ⟨ad340, e340, hx340_0⟩ := Kd.at_int (Kd.R_reads' HO_11.out).2.2 (ji48) p340 q340; obtain rfl : ad339 = ad340 := (by injection e340); replace p340 := eq_true p340; replace q340 := eq_true q340; have p341 : 0 ≤ (x15_3 : Int) := sq_dec; have q341 : x15_3 < (x11_2.length : Int) := sq_dec; obtain ⟨ad341, e341, hx341_0⟩ := Kd.at_int (Kd.R_reads' HO_11.out).2.2 x15_3 p341 q341; obtain rfl : ad339 = ad341 := (by injection e341); replace p341 := eq_true p341; replace q341 := eq_true q341; have p342 : 0 ≤ ((ji48) : Int) := sq_dec; have q342 : (ji48) < (x11_2.length : Int) := sq_dec; obtain ⟨ad342, e342, hx342_0⟩ := Kd.at_int (Kd.R_reads' HO_11.out).2.2 (ji48) p342 q342; obtain rfl : ad339 = ad342 := (by injection e342); replace p342 := eq_true p342; replace q342 := eq_true q342; have p343 : 0 ≤ (x15_3 : Int) := sq_dec; have q343 : x15_3 < (l2_2.length : Int) := sq_dec; obtain ⟨ad343, e343, hx343_0⟩ := Kd.at_bool HR2_2.out x15_3 p343 q343; have hw343_0 := hx343_0
                  (try rw [← Nbq57.out] at hx343_0)
                  (try rw [← Nbq57.out] at hw343_0)
                  cases e343; replace hx343_0 := (HB.out.cell (World.block_lt_of_cell? w _ hx343_0)).trans hx343_0; replace p343 := eq_true p343; replace q343 := eq_true q343; refine start_ (n := 30) (S := fun w' => w'.cell? ⟨gb318, 0, none⟩ = some (.slice A2_0 l2_0.length c2_0) ∧ w'.cell? ⟨gb318, 1, none⟩ = some (.slice A2_1 l2_1.length c2_1) ∧ w'.cell? ⟨gb318, 2, none⟩ = some (.slice (some ad343) l2_2.length c2_2) ∧ w'.cell? (ad339.add (x15_3).toNat) = some (.int .i64 (rd x11_2 x15_3)) ∧ w'.cell? (ad339.add ((ji48)).toNat) = some (.int .i64 (rd x11_2 (ji48))) ∧ w'.cell? (ad339.add (x15_3).toNat) = some (.int .i64 (rd x11_2 x15_3)) ∧ w'.cell? (ad339.add ((ji48)).toNat) = some (.int .i64 (rd x11_2 (ji48))) ∧ w'.cell? (ad343.add (x15_3).toNat) = some (.bool false)) (ds := []) spec_SegHas.b0_ (by kernel_rfl) rfl rfl ⟨cl_ BK318 0, cl_ BK318 1, cl_ BK318 2, hx339_0, hx340_0, hx341_0, hx342_0, ((HB.out.cell (World.block_lt_of_cell? w _ hw343_0)).trans hw343_0)⟩ (fun hHeld => ?_); refine with_tabW spec_SegHas.tab17 spec_SegHas.bits17 (fun HT_ HW_ => ?_); generalize wr.drew = w63 at HO_11 BK318 HB hx339_0 hx340_0 hx341_0 hx342_0 hx343_0 hHeld ⊢; refine pure_y 0 (some 111) spec_SegHas.b1_ (any_of HT_.out (by kernel_rfl)) (h := ?_)
                  refine pure_y 1 (some 112) spec_SegHas.b2_ (any_of HT_.out (by kernel_rfl)) (h := ?_)
                  refine pure_y 2 (some 113) spec_SegHas.b3_ (any_of HT_.out (by kernel_rfl)) (h := ?_)
                  refine pure_y 4 (some 115) spec_SegHas.b4_ (any_of HT_.out (by kernel_rfl)) (h := ?_)
                  refine pure_y 5 (some 116) spec_SegHas.b5_ (any_of HT_.out (by kernel_rfl)) (h := ?_)
                  refine pure_y 6 (some 117) spec_SegHas.b6_ (any_of HT_.out (by kernel_rfl)) (h := ?_)
                  refine pure_y 7 (some 118) spec_SegHas.b7_ (any_of HT_.out (by kernel_rfl)) (h := ?_)
                  refine take_y 3 (some 114) spec_SegHas.b8_ rfl (take_ofW HT_.out HW_.out (by kernel_rfl)) hHeld (Or.inl ⟨by rfl, (by rintro w' ⟨s0, s1, s2, s3, s4, s5, s6, s7⟩; go_simp; with_reducible rfl)⟩) (h := ?_)
                  refine take_y 8 (some 119) spec_SegHas.b9_ rfl (take_ofW HT_.out HW_.out (by kernel_rfl)) hHeld (Or.inl ⟨by rfl, (by rintro w' ⟨s0, s1, s2, s3, s4, s5, s6, s7⟩; go_simp; with_reducible rfl)⟩) (h := ?_)
                  refine pure_y 9 (some 120) spec_SegHas.b10_ (any_of HT_.out (by kernel_rfl)) (h := ?_)
                  refine pure_y 10 (some 121) spec_SegHas.b11_ (any_of HT_.out (by kernel_rfl)) (h := ?_)
                  refine pure_y 11 (some 122) spec_SegHas.b12_ (any_of HT_.out (by kernel_rfl)) (h := ?_)
                  refine pure_y 12 (some 123) spec_SegHas.b13_ (any_of HT_.out (by kernel_rfl)) (h := ?_)
                  refine pure_y 13 (some 124) spec_SegHas.b14_ (any_of HT_.out (by kernel_rfl)) (h := ?_)
                  refine pure_y 15 (some 126) spec_SegHas.b15_ (any_of HT_.out (by kernel_rfl)) (h := ?_)
                  refine pure_y 16 (some 127) spec_SegHas.b16_ (any_of HT_.out (by kernel_rfl)) (h := ?_)
                  refine pure_y 17 (some 128) spec_SegHas.b17_ (any_of HT_.out (by kernel_rfl)) (h := ?_)
                  refine pure_y 18 (some 129) spec_SegHas.b18_ (any_of HT_.out (by kernel_rfl)) (h := ?_)
                  refine take_y 14 (some 125) spec_SegHas.b19_ rfl (take_ofW HT_.out HW_.out (by kernel_rfl)) hHeld (Or.inl ⟨by rfl, (by rintro w' ⟨s0, s1, s2, s3, s4, s5, s6, s7⟩; go_simp; with_reducible rfl)⟩) (h := ?_)
                  refine take_y 19 (some 130) spec_SegHas.b20_ rfl (take_ofW HT_.out HW_.out (by kernel_rfl)) hHeld (Or.inl ⟨by rfl, (by rintro w' ⟨s0, s1, s2, s3, s4, s5, s6, s7⟩; go_simp; with_reducible rfl)⟩) (h := ?_)
                  refine pure_y 20 (some 131) spec_SegHas.b21_ (any_of HT_.out (by kernel_rfl)) (h := ?_)
                  refine pure_y 21 (some 132) spec_SegHas.b22_ (any_of HT_.out (by kernel_rfl)) (h := ?_)
                  refine pure_y 22 (some 133) spec_SegHas.b23_ (any_of HT_.out (by kernel_rfl)) (h := ?_)
                  refine pure_y 24 (some 135) spec_SegHas.b25_ (any_of HT_.out (by kernel_rfl)) (h := ?_)
                  refine take_y 23 (some 134) spec_SegHas.b26_ rfl (take_ofW HT_.out HW_.out (by kernel_rfl)) hHeld (Or.inl ⟨by rfl, (by rintro w' ⟨s0, s1, s2, s3, s4, s5, s6, s7⟩; go_simp; with_reducible rfl)⟩) (h := ?_)
                  refine pure_y 25 (some 136) spec_SegHas.b27_ (any_of HT_.out (by kernel_rfl)) (h := ?_)
                  refine take_y 26 (some 137) spec_SegHas.b28_ rfl (take_ofW HT_.out HW_.out (by kernel_rfl)) hHeld (Or.inl ⟨by rfl, (by rintro w' ⟨s0, s1, s2, s3, s4, s5, s6, s7⟩; go_simp; with_reducible rfl)⟩) (h := ?_)
                  refine pure_y 27 (some 138) spec_SegHas.b29_ (any_of HT_.out (by kernel_rfl)) (h := ?_)
                  refine pure_y 28 (some 139) spec_SegHas.b30_ (any_of HT_.out (by kernel_rfl)) (h := ?_)
                  refine pure_y 29 (some 140) spec_SegHas.b31_ (any_of HT_.out (by kernel_rfl)) (h := ?_)
                  refine done_ (done_of HT_.out (by kernel_rfl)) ?_
                  try go_wp2
                  go_ret
                  exact ⟨by first | rfl | (simp [errW_none, errW_some] <;> rfl) | (simp only [← hji48]; first | rfl | (simp [errW_none, errW_some] <;> rfl)) | (simp [*, errW_none, errW_some] <;> rfl), sq_below1 HB.out GE318.out⟩
                ·
                 rw [if_neg c56] at H; exact absurd H (by simp)
               ·
                rw [if_neg c55] at H; have c55b0 : ((rd x11_2 x15_3) == (rd x11_2 (ji48))) = false := beq_eq_false_iff_ne.mpr c55; have c55b1 : ((rd x11_2 x15_3) != (rd x11_2 (ji48))) = true := bne_iff_ne.mpr c55; have H' := Aside0.mk H; clear H; have hcz65_0 := cl_ (v := .slice A2_0 l2_0.length c2_0) BK318 0; have hcz65_1 := cl_ (v := .slice A2_1 l2_1.length c2_1) BK318 1; have hcz65_2 := cl_ (v := .slice A2_2 l2_2.length c2_2) BK318 2; have hfz65_0 := blk_frozen BK318.out 0; have hfz65_1 := blk_frozen BK318.out 1; have hfz65_2 := blk_frozen BK318.out 2
                try go_wp2
                replace HO_11 := Aside0.mk (Kd.R_drew HO_11.out); replace BK318 := bd_ BK318; replace HB := hd_ HB; obtain ⟨Ao67, co67, eo67⟩ := Kd.R_slice HO_11.out
                (first | subst eo67 | (injection eo67 with f1_ f2_ f3_; have f4_ := f1_.symm; have f5_ := f3_.symm; clear f1_ f2_ f3_; subst f4_; subst f5_))
                have p339 : 0 ≤ (x15_3 : Int) := sq_dec; have q339 : x15_3 < (x11_2.length : Int) := sq_dec; obtain ⟨ad339, e339, hx339_0⟩ := Kd.at_int (Kd.R_reads' HO_11.out).2.2 x15_3 p339 q339; cases e339; replace p339 := eq_true p339; replace q339 := eq_true q339; have p340 : 0 ≤ ((ji48) : Int) := sq_dec; have q340 : (ji48) < (x11_2.length : Int) := sq_dec; obtain ⟨ad340, e340, hx340_0⟩ := Kd.at_int (Kd.R_reads' HO_11.out).2.2 (ji48) p340 q340; obtain rfl : ad339 = ad340 := (by injection e340); replace p340 := eq_true p340; replace q340 := eq_true q340; have p341 : 0 ≤ (x15_3 : Int) := sq_dec; have q341 : x15_3 < (x11_2.length : Int) := sq_dec; obtain ⟨ad341, e341, hx341_0⟩ := Kd.at_int (Kd.R_reads' HO_11.out).2.2 x15_3 p341 q341; obtain rfl : ad339 = ad341 := (by injection e341); replace p341 := eq_true p341; replace q341 := eq_true q341; have p342 : 0 ≤ ((ji48) : Int) := sq_dec; have q342 : (ji48) < (x11_2.length : Int) := sq_dec; obtain ⟨ad342, e342, hx342_0⟩ := Kd.at_int (Kd.R_reads' HO_11.out).2.2 (ji48) p342 q342; obtain rfl : ad339 = ad342 := (by injection e342); replace p342 := eq_true p342; replace q342 := eq_true q342; refine start_ (n := 30) (S := fun w' => w'.cell? (ad339.add (x15_3).toNat) = some (.int .i64 (rd x11_2 x15_3)) ∧ w'.cell? (ad339.add ((ji48)).toNat) = some (.int .i64 (rd x11_2 (ji48))) ∧ w'.cell? (ad339.add (x15_3).toNat) = some (.int .i64 (rd x11_2 x15_3)) ∧ w'.cell? (ad339.add ((ji48)).toNat) = some (.int .i64 (rd x11_2 (ji48)))) (ds := []) spec_SegHas.b0_ (by kernel_rfl) rfl rfl ⟨hx339_0, hx340_0, hx341_0, hx342_0⟩ (fun hHeld => ?_); refine with_tabW spec_SegHas.tab17 spec_SegHas.bits17 (fun HT_ HW_ => ?_); generalize wr.drew = w66 at HO_11 BK318 HB hx339_0 hx340_0 hx341_0 hx342_0 hHeld ⊢; refine pure_y 0 (some 111) spec_SegHas.b1_ (any_of HT_.out (by kernel_rfl)) (h := ?_)
                refine pure_y 1 (some 112) spec_SegHas.b2_ (any_of HT_.out (by kernel_rfl)) (h := ?_)
                refine pure_y 2 (some 113) spec_SegHas.b3_ (any_of HT_.out (by kernel_rfl)) (h := ?_)
                refine pure_y 4 (some 115) spec_SegHas.b4_ (any_of HT_.out (by kernel_rfl)) (h := ?_)
                refine pure_y 5 (some 116) spec_SegHas.b5_ (any_of HT_.out (by kernel_rfl)) (h := ?_)
                refine pure_y 6 (some 117) spec_SegHas.b6_ (any_of HT_.out (by kernel_rfl)) (h := ?_)
                refine pure_y 7 (some 118) spec_SegHas.b7_ (any_of HT_.out (by kernel_rfl)) (h := ?_)
                refine take_y 3 (some 114) spec_SegHas.b8_ rfl (take_ofW HT_.out HW_.out (by kernel_rfl)) hHeld (Or.inl ⟨by rfl, (by rintro w' ⟨s0, s1, s2, s3⟩; go_simp; with_reducible rfl)⟩) (h := ?_)
                refine take_y 8 (some 119) spec_SegHas.b9_ rfl (take_ofW HT_.out HW_.out (by kernel_rfl)) hHeld (Or.inl ⟨by rfl, (by rintro w' ⟨s0, s1, s2, s3⟩; go_simp; with_reducible rfl)⟩) (h := ?_)
                refine pure_y 9 (some 120) spec_SegHas.b10_ (any_of HT_.out (by kernel_rfl)) (h := ?_)
                refine pure_y 10 (some 121) spec_SegHas.b11_ (any_of HT_.out (by kernel_rfl)) (h := ?_)
                refine pure_y 11 (some 122) spec_SegHas.b12_ (any_of HT_.out (by kernel_rfl)) (h := ?_)
                refine pure_y 12 (some 123) spec_SegHas.b13_ (any_of HT_.out (by kernel_rfl)) (h := ?_)
                refine pure_y 13 (some 124) spec_SegHas.b14_ (any_of HT_.out (by kernel_rfl)) (h := ?_)
                refine pure_y 15 (some 126) spec_SegHas.b15_ (any_of HT_.out (by kernel_rfl)) (h := ?_)
                refine pure_y 16 (some 127) spec_SegHas.b16_ (any_of HT_.out (by kernel_rfl)) (h := ?_)
                refine pure_y 17 (some 128) spec_SegHas.b17_ (any_of HT_.out (by kernel_rfl)) (h := ?_)
                refine pure_y 18 (some 129) spec_SegHas.b18_ (any_of HT_.out (by kernel_rfl)) (h := ?_)
                refine take_y 14 (some 125) spec_SegHas.b19_ rfl (take_ofW HT_.out HW_.out (by kernel_rfl)) hHeld (Or.inl ⟨by rfl, (by rintro w' ⟨s0, s1, s2, s3⟩; go_simp; with_reducible rfl)⟩) (h := ?_)
                refine take_y 19 (some 130) spec_SegHas.b20_ rfl (take_ofW HT_.out HW_.out (by kernel_rfl)) hHeld (Or.inl ⟨by rfl, (by rintro w' ⟨s0, s1, s2, s3⟩; go_simp; with_reducible rfl)⟩) (h := ?_)
                refine pure_y 20 (some 131) spec_SegHas.b21_ (any_of HT_.out (by kernel_rfl)) (h := ?_)
                refine pure_y 21 (some 132) spec_SegHas.b22_ (any_of HT_.out (by kernel_rfl)) (h := ?_)
                refine pure_n 22 (some 133) spec_SegHas.b23_ (any_of HT_.out (by kernel_rfl)) (h := ?_)
                refine pure_n 23 (some 134) spec_SegHas.b24_ (any_of HT_.out (by kernel_rfl)) (h := ?_)
                refine pure_n 24 (some 135) spec_SegHas.b26_ (any_of HT_.out (by kernel_rfl)) (h := ?_)
                refine pure_n 25 (some 136) spec_SegHas.b27_ (any_of HT_.out (by kernel_rfl)) (h := ?_)
                refine pure_n 26 (some 137) spec_SegHas.b28_ (any_of HT_.out (by kernel_rfl)) (h := ?_)
                refine pure_n 27 (some 138) spec_SegHas.b29_ (any_of HT_.out (by kernel_rfl)) (h := ?_)
                refine pure_y 28 (some 139) spec_SegHas.b30_ (any_of HT_.out (by kernel_rfl)) (h := ?_)
                refine pure_y 29 (some 140) spec_SegHas.b31_ (any_of HT_.out (by kernel_rfl)) (h := ?_)
                refine done_ (done_of HT_.out (by kernel_rfl)) ?_
                try go_wp2
                go_roundg k3
                case measure => have := HJ5.out; have := HK2.out; have := HK3.out; omega
                case rel => exact ⟨(ji48), (by first | rfl | (simp; done) | (simp only [← hji48] <;> (first | rfl | simp)) | (simp [*]; done)), H', ⟨by have := HJ5.out; have := HK2.out; have := HK3.out; omega⟩, ⟨by (with_reducible repeat (first | apply Kd.R_alloc | apply Kd.R_drewN | apply Kd.R_drew)); exact HO_11.out⟩, bk_ BK318, ⟨sq_below1 HB.out GE318.out⟩⟩
             ·
              rw [if_neg c50] at H; exact absurd H (by simp)
            ·
             rw [if_neg c49] at H; exact absurd H (by simp)
           ·
            rw [if_neg c47] at H; exact absurd H (by simp)
          ·
           rw [if_neg c46] at H; exact absurd H (by simp)
         ·
          rw [if_neg c45] at H; have c45b0 : decide (x15_3 < (l2_1.length : Int)) = false := decide_eq_false c45; clear c45; have H' := Aside0.mk H; clear H; have hcz68_0 := cl_ (v := .slice A2_0 l2_0.length c2_0) BK318 0; have hcz68_1 := cl_ (v := .slice A2_1 l2_1.length c2_1) BK318 1; have hcz68_2 := cl_ (v := .slice A2_2 l2_2.length c2_2) BK318 2; have hfz68_0 := blk_frozen BK318.out 0; have hfz68_1 := blk_frozen BK318.out 1; have hfz68_2 := blk_frozen BK318.out 2
          go_wp2
          go_loopg [16] k3 (fun kq v16 w' => ∃ (x16_4 : Int), v16 = .int .i64 x16_4 ∧ Aside0 (spec_SegHas.l3 kq l4 x11_2 x16_4 l2_0 l2_1 l2_2 = some r) ∧ Aside0 (kq ≤ k3) ∧ Aside0 (Kd.R (Kd.int .i64) 3 w' w.heap.size (fun _ => True) u11 x11_2) ∧ Aside0 (w'.heap[gb318]? = some (.cells #[(.slice A2_0 l2_0.length c2_0), (.slice A2_1 l2_1.length c2_1), (.slice A2_2 l2_2.length c2_2)] 32 (0, 0))) ∧ Aside0 (Below w.heap.size w w'))
          case atStart => exact ⟨(0), (by first | rfl | (simp; done) | (simp [*]; done)), H', ⟨Nat.le_refl _⟩, ⟨by (with_reducible repeat (first | apply Kd.R_alloc | apply Kd.R_drewN | apply Kd.R_drew)); exact HO_11.out⟩, bk_ BK318, ⟨sq_below1 HB.out GE318.out⟩⟩
          case round =>
           clear H'
           try clear c2
           try clear p2
           try clear p3
           try clear q3
           try clear hx3
           try clear c4
           try clear c5
           try clear q5
           try clear p33
           try clear q33
           try clear hx33
           try clear p34
           try clear q34
           try clear hx34
           try clear c45
           try clear c45b0
           try clear c46
           try clear c47
           try clear c49
           try clear c50
           try clear c55
           try clear c55b0
           try clear c55b1
           try clear c56
           try clear q57
           try clear hcz62_0
           try clear hcz62_1
           try clear hcz62_2
           try clear hcz65_0
           try clear hcz65_1
           try clear hcz65_2
           try clear hcz68_0
           try clear hcz68_1
           try clear hcz68_2
           try clear hfz62_0
           try clear hfz62_1
           try clear hfz62_2
           try clear hfz65_0
           try clear hfz65_1
           try clear hfz65_2
           try clear hfz68_0
           try clear hfz68_1
           try clear hfz68_2
           try clear hx339_0
           try clear hx340_0
           try clear hx341_0
           try clear hx342_0
           try clear hx343_0
           try clear p339
           try clear p340
           try clear p341
           try clear p342
           try clear p343
           try clear q339
           try clear q340
           try clear q341
           try clear q342
           try clear q343
           obtain ⟨x16_4, rfl, HA, HK4, HO_11, BK318, HB⟩ := hrel; cases gk with
           | zero => exact absurd HA.out (by simp [spec_SegHas.l3])
           | succ k4 =>
            have H := HA.out; clear HA; simp only [spec_SegHas.l3] at H
            by_cases c69 : x16_4 < (l2_1.length : Int)
            ·
             rw [if_pos c69] at H; have c69b0 : decide (x16_4 < (l2_1.length : Int)) = true := decide_eq_true c69; clear c69
             by_cases c70 : 0 ≤ x16_4
             ·
              rw [if_pos c70] at H; have c70b0 : decide (0 ≤ x16_4) = true := decide_eq_true c70; clear c70
              by_cases c71 : x16_4 < (x11_2.length : Int)
              ·
               rw [if_pos c71] at H; have c71b0 : decide (x16_4 < (x11_2.length : Int)) = true := decide_eq_true c71; clear c71; have H' := Aside0.mk H; clear H; have hcz72_0 := cl_ (v := .slice A2_0 l2_0.length c2_0) BK318 0; have hcz72_1 := cl_ (v := .slice A2_1 l2_1.length c2_1) BK318 1; have hcz72_2 := cl_ (v := .slice A2_2 l2_2.length c2_2) BK318 2; have hfz72_0 := blk_frozen BK318.out 0; have hfz72_1 := blk_frozen BK318.out 1; have hfz72_2 := blk_frozen BK318.out 2; obtain ⟨Ao73, co73, eo73⟩ := Kd.R_slice HO_11.out; subst eo73; have p344 : 0 ≤ (x16_4 : Int) := sq_dec; have q344 : x16_4 < (x11_2.length : Int) := sq_dec; obtain ⟨ad344, e344, hx344_0⟩ := Kd.at_int (Kd.R_reads' HO_11.out).2.2 x16_4 p344 q344; cases e344; replace p344 := eq_true p344; replace q344 := eq_true q344
               go_wp2
               go_loopg [17] k4 (fun kq v17 w' => ∃ (x17_5 : Int), v17 = .int .i64 x17_5 ∧ Aside0 (spec_SegHas.l4 kq l4 x11_2 x16_4 x17_5 l2_0 l2_1 l2_2 = some r) ∧ Aside0 (kq ≤ k4) ∧ Aside0 (Kd.R (Kd.int .i64) 3 w' w.heap.size (fun _ => True) (.slice (some ad344) x11_2.length co73) x11_2) ∧ Aside0 (w'.heap[gb318]? = some (.cells #[(.slice A2_0 l2_0.length c2_0), (.slice A2_1 l2_1.length c2_1), (.slice A2_2 l2_2.length c2_2)] 32 (0, 0))) ∧ Aside0 (Below w.heap.size w w'))
               case atStart => exact ⟨(rd x11_2 x16_4), (by first | rfl | (simp; done) | (simp [*]; done)), H', ⟨Nat.le_refl _⟩, ⟨by (with_reducible repeat (first | apply Kd.R_alloc | apply Kd.R_drewN | apply Kd.R_drew)); exact HO_11.out⟩, bk_ BK318, ⟨sq_below1 HB.out GE318.out⟩⟩
               case round =>
                clear H'
                try clear c2
                try clear p2
                try clear p3
                try clear q3
                try clear hx3
                try clear c4
                try clear c5
                try clear q5
                try clear c6
                try clear c7
                try clear p33
                try clear q33
                try clear hx33
                try clear p34
                try clear q34
                try clear hx34
                try clear c45
                try clear c45b0
                try clear c46
                try clear c47
                try clear c49
                try clear c50
                try clear c55
                try clear c55b0
                try clear c55b1
                try clear c56
                try clear q57
                try clear c69
                try clear c69b0
                try clear c70
                try clear c70b0
                try clear c71
                try clear c71b0
                try clear hcz62_0
                try clear hcz62_1
                try clear hcz62_2
                try clear hcz65_0
                try clear hcz65_1
                try clear hcz65_2
                try clear hcz68_0
                try clear hcz68_1
                try clear hcz68_2
                try clear hcz72_0
                try clear hcz72_1
                try clear hcz72_2
                try clear hfz62_0
                try clear hfz62_1
                try clear hfz62_2
                try clear hfz65_0
                try clear hfz65_1
                try clear hfz65_2
                try clear hfz68_0
                try clear hfz68_1
                try clear hfz68_2
                try clear hfz72_0
                try clear hfz72_1
                try clear hfz72_2
                try clear hx339_0
                try clear hx340_0
                try clear hx341_0
                try clear hx342_0
                try clear hx343_0
                try clear hx344_0
                try clear p2
                try clear p3
                try clear p33
                try clear p339
                try clear p34
                try clear p340
                try clear p341
                try clear p342
                try clear p343
                try clear p344
                try clear q3
                try clear q33
                try clear q339
                try clear q34
                try clear q340
                try clear q341
                try clear q342
                try clear q343
                try clear q344
                try clear q5
                try clear q57
                obtain ⟨x17_5, rfl, HA, HK5, HO_11, BK318, HB⟩ := hrel; cases gk with
                | zero => exact absurd HA.out (by simp [spec_SegHas.l4])
                | succ k5 =>
                 have H := HA.out; clear HA; simp only [spec_SegHas.l4] at H; obtain ⟨ji74, hji74⟩ : ∃ j_ : Int, (wrap64 (x16_4 + 1)) = j_ := ⟨_, rfl⟩; replace H : (if 0 ≤ (ji74) then (if (ji74) < (x11_2.length : Int) then (if x17_5 < (rd x11_2 (ji74)) then (if 0 ≤ x16_4 then (if x16_4 < (l2_1.length : Int) then (if 0 ≤ x17_5 then (if x17_5 < (l4.length : Int) then ((spec_ValHas.f ((rd_T62 l2_1 x16_4).f0.f0) ((rd_T62 l2_1 x16_4).f0.f1) ((rd_T62 l2_1 x16_4).f1) ((rd_T77 l4 x17_5).f0) ((rd_T77 l4 x17_5).f1)).bind fun t348 => (if t348 = true then (spec_SegHas.l4 k5 l4 x11_2 x16_4 (wrap64 (x17_5 + 1)) l2_0 l2_1 l2_2) else (some false))) else (none)) else (none)) else (none)) else (none)) else (spec_SegHas.l3 k5 l4 x11_2 ji74 l2_0 l2_1 l2_2)) else (none)) else (none)) = some r := by first | (rw [hji74] at H; exact H) | (simp only [hji74] at H ⊢; exact H)
                 have hji74w : (IntKind.i64.wrap (x16_4 + 1)) = ji74 := (i64_w _).trans hji74
                 by_cases c75 : 0 ≤ (ji74)
                 ·
                  rw [if_pos c75] at H; have c75b0 : decide (0 ≤ (ji74)) = true := decide_eq_true c75; clear c75
                  by_cases c76 : (ji74) < (x11_2.length : Int)
                  ·
                   rw [if_pos c76] at H; have c76b0 : decide ((ji74) < (x11_2.length : Int)) = true := decide_eq_true c76; clear c76
                   by_cases c77 : x17_5 < (rd x11_2 (ji74))
                   ·
                    rw [if_pos c77] at H; have c77b0 : decide (x17_5 < (rd x11_2 (ji74))) = true := decide_eq_true c77; clear c77
                    by_cases c78 : 0 ≤ x16_4
                    ·
                     rw [if_pos c78] at H; have c78b0 : decide (0 ≤ x16_4) = true := decide_eq_true c78; clear c78
                     by_cases c79 : x16_4 < (l2_1.length : Int)
                     ·
                      rw [if_pos c79] at H; have c79b0 : decide (x16_4 < (l2_1.length : Int)) = true := decide_eq_true c79; clear c79
                      by_cases c80 : 0 ≤ x17_5
                      ·
                       rw [if_pos c80] at H; have c80b0 : decide (0 ≤ x17_5) = true := decide_eq_true c80; clear c80
                       by_cases c81 : x17_5 < (l4.length : Int)
                       ·
                        rw [if_pos c81] at H; have c81b0 : decide (x17_5 < (l4.length : Int)) = true := decide_eq_true c81; clear c81; replace H := Option.bind_eq_some_iff.mp H; obtain ⟨t348, A820, H⟩ := H; (try dsimp only at H); have A82 := Aside0.mk A820; clear A820
                        by_cases c83 : t348 = true
                        ·
                         subst c83; have H1 := ifp_ H
                         clear H; have H := H1; clear H1; have H' := Aside0.mk H; clear H; have p345 : 0 ≤ ((ji74) : Int) := sq_dec; have q345 : (ji74) < (x11_2.length : Int) := sq_dec; obtain ⟨ad345, e345, hx345_0⟩ := Kd.at_int (Kd.R_reads' HO_11.out).2.2 (ji74) p345 q345; obtain rfl : ad344 = ad345 := (by injection e345); replace p345 := eq_true p345; replace q345 := eq_true q345
                         try go_wp2
                         replace HO_11 := Aside0.mk (Kd.R_drew HO_11.out); replace BK318 := bd_ BK318; replace HB := hd_ HB; have p346 : 0 ≤ (x16_4 : Int) := sq_dec; have q346 : x16_4 < (l2_1.length : Int) := sq_dec; obtain ⟨ad346, e346, hx346_0, hx346_1, hx346_2⟩ := at_T62 HR2_1.out x16_4 p346 q346; have hw346_2 := hx346_2; have hw346_1 := hx346_1; have hw346_0 := hx346_0; cases e346; replace hx346_0 := (HB.out.cell (World.block_lt_of_cell? w _ hx346_0)).trans hx346_0; replace hx346_1 := (HB.out.cell (World.block_lt_of_cell? w _ hx346_1)).trans hx346_1; replace hx346_2 := (HB.out.cell (World.block_lt_of_cell? w _ hx346_2)).trans hx346_2; replace p346 := eq_true p346; replace q346 := eq_true q346; have p347 : 0 ≤ (x17_5 : Int) := sq_dec; have q347 : x17_5 < (l4.length : Int) := sq_dec; obtain ⟨ad347, e347, hx347_0, hx347_1⟩ := at_T77 HR4.out x17_5 p347 q347; have hw347_1 := hx347_1; have hw347_0 := hx347_0; cases e347; replace hx347_0 := (HB.out.cell (World.block_lt_of_cell? w _ hx347_0)).trans hx347_0; replace hx347_1 := (HB.out.cell (World.block_lt_of_cell? w _ hx347_1)).trans hx347_1; replace p347 := eq_true p347; replace q347 := eq_true q347; refine start_ (n := 11) (S := fun w' => w'.cell? ⟨gb318, 0, none⟩ = some (.slice A2_0 l2_0.length c2_0) ∧ w'.cell? ⟨gb318, 1, none⟩ = some (.slice (some ad346) l2_1.length c2_1) ∧ w'.cell? ⟨gb318, 2, none⟩ = some (.slice A2_2 l2_2.length c2_2) ∧ w'.cell? (ad346.add ((x16_4).toNat * 3)) = some (.int .i64 ((rd_T62 l2_1 x16_4).f0.f0)) ∧ w'.cell? ⟨(ad346.add ((x16_4).toNat * 3)).block, (ad346.add ((x16_4).toNat * 3)).off + 1, none⟩ = some (.int .i64 ((rd_T62 l2_1 x16_4).f0.f1)) ∧ w'.cell? ⟨(ad346.add ((x16_4).toNat * 3)).block, (ad346.add ((x16_4).toNat * 3)).off + 2, none⟩ = some (.bool ((rd_T62 l2_1 x16_4).f1)) ∧ w'.cell? (ad347.add ((x17_5).toNat * 2)) = some (.bool ((rd_T77 l4 x17_5).f0)) ∧ w'.cell? ⟨(ad347.add ((x17_5).toNat * 2)).block, (ad347.add ((x17_5).toNat * 2)).off + 1, none⟩ = some (.int .i64 ((rd_T77 l4 x17_5).f1))) (ds := []) spec_SegHas.b57_ (by kernel_rfl) rfl rfl ⟨cl_ BK318 0, cl_ BK318 1, cl_ BK318 2, ((HB.out.cell (World.block_lt_of_cell? w _ hw346_0)).trans hw346_0), ((HB.out.cell (World.block_lt_of_cell? w _ hw346_1)).trans hw346_1), ((HB.out.cell (World.block_lt_of_cell? w _ hw346_2)).trans hw346_2), ((HB.out.cell (World.block_lt_of_cell? w _ hw347_0)).trans hw347_0), ((HB.out.cell (World.block_lt_of_cell? w _ hw347_1)).trans hw347_1)⟩ (fun hHeld => ?_); refine with_tabW spec_SegHas.tab25 spec_SegHas.bits25 (fun HT_ HW_ => ?_); generalize wr.drew = w84 at HO_11 BK318 HB hx346_0 hx346_1 hx346_2 hx347_0 hx347_1 hHeld ⊢; refine pure_y 0 (some 161) spec_SegHas.b58_ (any_of HT_.out (by kernel_rfl)) (h := ?_)
                         refine pure_y 2 (some 163) spec_SegHas.b59_ (any_of HT_.out (by kernel_rfl)) (h := ?_)
                         refine pure_y 5 (some 166) spec_SegHas.b60_ (any_of HT_.out (by kernel_rfl)) (h := ?_)
                         refine pure_y 6 (some 167) spec_SegHas.b61_ (any_of HT_.out (by kernel_rfl)) (h := ?_)
                         refine pure_y 7 (some 168) spec_SegHas.b62_ (any_of HT_.out (by kernel_rfl)) (h := ?_)
                         refine take_y 1 (some 162) spec_SegHas.b63_ rfl (take_ofW HT_.out HW_.out (by kernel_rfl)) hHeld (Or.inl ⟨by rfl, (by rintro w' ⟨s0, s1, s2, s3, s4, s5, s6, s7⟩; go_simp; with_reducible rfl)⟩) (h := ?_)
                         refine pure_y 3 (some 164) spec_SegHas.b64_ (any_of HT_.out (by kernel_rfl)) (h := ?_)
                         refine take_y 4 (some 165) spec_SegHas.b65_ rfl (take_ofW HT_.out HW_.out (by kernel_rfl)) hHeld (Or.inl ⟨by rfl, (by rintro w' ⟨s0, s1, s2, s3, s4, s5, s6, s7⟩; go_simp; with_reducible rfl)⟩) (h := ?_)
                         refine take_y 8 (some 169) spec_SegHas.b66_ rfl (take_ofW HT_.out HW_.out (by kernel_rfl)) hHeld (Or.inl ⟨by rfl, (by rintro w' ⟨s0, s1, s2, s3, s4, s5, s6, s7⟩; go_simp; with_reducible rfl)⟩) (h := ?_)
                         refine one_ (i := 9) (N := some 170) spec_SegHas.b67_ rfl rfl (one_of HT_.out (by kernel_rfl)) (by decide) (fun K hK => ?_); refine gs_ Tryd.func44 #[.agg #[.int .i64 ((rd_T62 l2_1 x16_4).f0.f0), .int .i64 ((rd_T62 l2_1 x16_4).f0.f1), .bool ((rd_T62 l2_1 x16_4).f1)], .agg #[.bool ((rd_T77 l4 x17_5).f0), .int .i64 ((rd_T77 l4 x17_5).f1)]] (h := ?_); with_reducible refine (spec_ValHas.calls ((rd_T62 l2_1 x16_4).f0.f0) ((rd_T62 l2_1 x16_4).f0.f1) ((rd_T62 l2_1 x16_4).f1) ((rd_T77 l4 x17_5).f0) ((rd_T77 l4 x17_5).f1) true _ A82.out).mono ?_
                         rintro e w85 ⟨rfl, hb⟩; refine ⟨_, rfl, ?_⟩; replace HO_11 := Aside0.mk (Kd.R_below (sq_row HO_11.out) hb); replace BK318 := bb_ BK318 hb; replace HB := hb1_ HB hb GE318
                         (try clear hb)
                         (try clear hb2)
                         (try clear hk)
                         (try clear hi)
                         refine hK.out _ _ ⟨cl_ BK318 0, cl_ BK318 1, cl_ BK318 2, ((HB.out.cell (World.block_lt_of_cell? w _ hw346_0)).trans hw346_0), ((HB.out.cell (World.block_lt_of_cell? w _ hw346_1)).trans hw346_1), ((HB.out.cell (World.block_lt_of_cell? w _ hw346_2)).trans hw346_2), ((HB.out.cell (World.block_lt_of_cell? w _ hw347_0)).trans hw347_0), ((HB.out.cell (World.block_lt_of_cell? w _ hw347_1)).trans hw347_1)⟩ (fun hHeld => ?_); clear hK K; refine norm_y 170 (h := ?_)
                         refine pure_y 10 (some 171) spec_SegHas.b68_ (any_of HT_.out (by kernel_rfl)) (h := ?_)
                         refine done_ (done_of HT_.out (by kernel_rfl)) ?_
                         try go_wp2
                         go_roundg k5
                         case measure => have := HJ5.out; have := HK2.out; have := HK3.out; have := HK4.out; have := HK5.out; omega
                         case rel => exact ⟨(wrap64 (x17_5 + 1)), (by first | rfl | (simp; done) | (simp [*]; done)), H', ⟨by have := HJ5.out; have := HK2.out; have := HK3.out; have := HK4.out; have := HK5.out; omega⟩, ⟨by (with_reducible repeat (first | apply Kd.R_alloc | apply Kd.R_drewN | apply Kd.R_drew)); exact HO_11.out⟩, bk_ BK318, ⟨sq_below1 HB.out GE318.out⟩⟩
                        ·
                         replace c83 := Bool.eq_false_iff.mpr c83; subst c83; have H1 := ifn_ H
                         clear H; have H := H1; clear H1; obtain rfl := Option.some.inj H; have p345 : 0 ≤ ((ji74) : Int) := sq_dec; have q345 : (ji74) < (x11_2.length : Int) := sq_dec; obtain ⟨ad345, e345, hx345_0⟩ := Kd.at_int (Kd.R_reads' HO_11.out).2.2 (ji74) p345 q345; obtain rfl : ad344 = ad345 := (by injection e345); replace p345 := eq_true p345; replace q345 := eq_true q345
                         try go_wp2
                         replace HO_11 := Aside0.mk (Kd.R_drew HO_11.out); replace BK318 := bd_ BK318; replace HB := hd_ HB; have p346 : 0 ≤ (x16_4 : Int) := sq_dec; have q346 : x16_4 < (l2_1.length : Int) := sq_dec; obtain ⟨ad346, e346, hx346_0, hx346_1, hx346_2⟩ := at_T62 HR2_1.out x16_4 p346 q346; have hw346_2 := hx346_2; have hw346_1 := hx346_1; have hw346_0 := hx346_0; cases e346; replace hx346_0 := (HB.out.cell (World.block_lt_of_cell? w _ hx346_0)).trans hx346_0; replace hx346_1 := (HB.out.cell (World.block_lt_of_cell? w _ hx346_1)).trans hx346_1; replace hx346_2 := (HB.out.cell (World.block_lt_of_cell? w _ hx346_2)).trans hx346_2; replace p346 := eq_true p346; replace q346 := eq_true q346; have p347 : 0 ≤ (x17_5 : Int) := sq_dec; have q347 : x17_5 < (l4.length : Int) := sq_dec; obtain ⟨ad347, e347, hx347_0, hx347_1⟩ := at_T77 HR4.out x17_5 p347 q347; have hw347_1 := hx347_1; have hw347_0 := hx347_0; cases e347; replace hx347_0 := (HB.out.cell (World.block_lt_of_cell? w _ hx347_0)).trans hx347_0; replace hx347_1 := (HB.out.cell (World.block_lt_of_cell? w _ hx347_1)).trans hx347_1; replace p347 := eq_true p347; replace q347 := eq_true q347; refine start_ (n := 11) (S := fun w' => w'.cell? ⟨gb318, 0, none⟩ = some (.slice A2_0 l2_0.length c2_0) ∧ w'.cell? ⟨gb318, 1, none⟩ = some (.slice (some ad346) l2_1.length c2_1) ∧ w'.cell? ⟨gb318, 2, none⟩ = some (.slice A2_2 l2_2.length c2_2) ∧ w'.cell? (ad346.add ((x16_4).toNat * 3)) = some (.int .i64 ((rd_T62 l2_1 x16_4).f0.f0)) ∧ w'.cell? ⟨(ad346.add ((x16_4).toNat * 3)).block, (ad346.add ((x16_4).toNat * 3)).off + 1, none⟩ = some (.int .i64 ((rd_T62 l2_1 x16_4).f0.f1)) ∧ w'.cell? ⟨(ad346.add ((x16_4).toNat * 3)).block, (ad346.add ((x16_4).toNat * 3)).off + 2, none⟩ = some (.bool ((rd_T62 l2_1 x16_4).f1)) ∧ w'.cell? (ad347.add ((x17_5).toNat * 2)) = some (.bool ((rd_T77 l4 x17_5).f0)) ∧ w'.cell? ⟨(ad347.add ((x17_5).toNat * 2)).block, (ad347.add ((x17_5).toNat * 2)).off + 1, none⟩ = some (.int .i64 ((rd_T77 l4 x17_5).f1))) (ds := []) spec_SegHas.b57_ (by kernel_rfl) rfl rfl ⟨cl_ BK318 0, cl_ BK318 1, cl_ BK318 2, ((HB.out.cell (World.block_lt_of_cell? w _ hw346_0)).trans hw346_0), ((HB.out.cell (World.block_lt_of_cell? w _ hw346_1)).trans hw346_1), ((HB.out.cell (World.block_lt_of_cell? w _ hw346_2)).trans hw346_2), ((HB.out.cell (World.block_lt_of_cell? w _ hw347_0)).trans hw347_0), ((HB.out.cell (World.block_lt_of_cell? w _ hw347_1)).trans hw347_1)⟩ (fun hHeld => ?_); refine with_tabW spec_SegHas.tab25 spec_SegHas.bits25 (fun HT_ HW_ => ?_); generalize wr.drew = w86 at HO_11 BK318 HB hx346_0 hx346_1 hx346_2 hx347_0 hx347_1 hHeld ⊢; refine pure_y 0 (some 161) spec_SegHas.b58_ (any_of HT_.out (by kernel_rfl)) (h := ?_)
                         refine pure_y 2 (some 163) spec_SegHas.b59_ (any_of HT_.out (by kernel_rfl)) (h := ?_)
                         refine pure_y 5 (some 166) spec_SegHas.b60_ (any_of HT_.out (by kernel_rfl)) (h := ?_)
                         refine pure_y 6 (some 167) spec_SegHas.b61_ (any_of HT_.out (by kernel_rfl)) (h := ?_)
                         refine pure_y 7 (some 168) spec_SegHas.b62_ (any_of HT_.out (by kernel_rfl)) (h := ?_)
                         refine take_y 1 (some 162) spec_SegHas.b63_ rfl (take_ofW HT_.out HW_.out (by kernel_rfl)) hHeld (Or.inl ⟨by rfl, (by rintro w' ⟨s0, s1, s2, s3, s4, s5, s6, s7⟩; go_simp; with_reducible rfl)⟩) (h := ?_)
                         refine pure_y 3 (some 164) spec_SegHas.b64_ (any_of HT_.out (by kernel_rfl)) (h := ?_)
                         refine take_y 4 (some 165) spec_SegHas.b65_ rfl (take_ofW HT_.out HW_.out (by kernel_rfl)) hHeld (Or.inl ⟨by rfl, (by rintro w' ⟨s0, s1, s2, s3, s4, s5, s6, s7⟩; go_simp; with_reducible rfl)⟩) (h := ?_)
                         refine take_y 8 (some 169) spec_SegHas.b66_ rfl (take_ofW HT_.out HW_.out (by kernel_rfl)) hHeld (Or.inl ⟨by rfl, (by rintro w' ⟨s0, s1, s2, s3, s4, s5, s6, s7⟩; go_simp; with_reducible rfl)⟩) (h := ?_)
                         refine one_ (i := 9) (N := some 170) spec_SegHas.b67_ rfl rfl (one_of HT_.out (by kernel_rfl)) (by decide) (fun K hK => ?_); refine gs_ Tryd.func44 #[.agg #[.int .i64 ((rd_T62 l2_1 x16_4).f0.f0), .int .i64 ((rd_T62 l2_1 x16_4).f0.f1), .bool ((rd_T62 l2_1 x16_4).f1)], .agg #[.bool ((rd_T77 l4 x17_5).f0), .int .i64 ((rd_T77 l4 x17_5).f1)]] (h := ?_); with_reducible refine (spec_ValHas.calls ((rd_T62 l2_1 x16_4).f0.f0) ((rd_T62 l2_1 x16_4).f0.f1) ((rd_T62 l2_1 x16_4).f1) ((rd_T77 l4 x17_5).f0) ((rd_T77 l4 x17_5).f1) false _ A82.out).mono ?_
                         rintro e w87 ⟨rfl, hb⟩; refine ⟨_, rfl, ?_⟩; replace HO_11 := Aside0.mk (Kd.R_below (sq_row HO_11.out) hb); replace BK318 := bb_ BK318 hb; replace HB := hb1_ HB hb GE318
                         (try clear hb)
                         (try clear hb2)
                         (try clear hk)
                         (try clear hi)
                         refine hK.out _ _ ⟨cl_ BK318 0, cl_ BK318 1, cl_ BK318 2, ((HB.out.cell (World.block_lt_of_cell? w _ hw346_0)).trans hw346_0), ((HB.out.cell (World.block_lt_of_cell? w _ hw346_1)).trans hw346_1), ((HB.out.cell (World.block_lt_of_cell? w _ hw346_2)).trans hw346_2), ((HB.out.cell (World.block_lt_of_cell? w _ hw347_0)).trans hw347_0), ((HB.out.cell (World.block_lt_of_cell? w _ hw347_1)).trans hw347_1)⟩ (fun hHeld => ?_); clear hK K; refine norm_y 170 (h := ?_)
                         refine pure_y 10 (some 171) spec_SegHas.b68_ (any_of HT_.out (by kernel_rfl)) (h := ?_)
                         refine done_ (done_of HT_.out (by kernel_rfl)) ?_
                         try go_wp2
                         go_ret
                         exact ⟨by first | rfl | (simp [errW_none, errW_some] <;> rfl) | (simp only [← hji74]; first | rfl | (simp [errW_none, errW_some] <;> rfl)) | (simp [*, errW_none, errW_some] <;> rfl), sq_below1 HB.out GE318.out⟩
                       ·
                        rw [if_neg c81] at H; exact absurd H (by simp)
                      ·
                       rw [if_neg c80] at H; exact absurd H (by simp)
                     ·
                      rw [if_neg c79] at H; exact absurd H (by simp)
                    ·
                     rw [if_neg c78] at H; exact absurd H (by simp)
                   ·
                    rw [if_neg c77] at H; have c77b0 : decide (x17_5 < (rd x11_2 (ji74))) = false := decide_eq_false c77; clear c77; have H' := Aside0.mk H; clear H; have p345 : 0 ≤ ((ji74) : Int) := sq_dec; have q345 : (ji74) < (x11_2.length : Int) := sq_dec; obtain ⟨ad345, e345, hx345_0⟩ := Kd.at_int (Kd.R_reads' HO_11.out).2.2 (ji74) p345 q345; obtain rfl : ad344 = ad345 := (by injection e345); replace p345 := eq_true p345; replace q345 := eq_true q345
                    go_wp2
                    go_roundg k5
                    case measure => have := HJ5.out; have := HK2.out; have := HK3.out; have := HK4.out; have := HK5.out; omega
                    case rel => exact ⟨(ji74), (by first | rfl | (simp; done) | (simp only [← hji74] <;> (first | rfl | simp)) | (simp [*]; done)), H', ⟨by have := HJ5.out; have := HK2.out; have := HK3.out; have := HK4.out; have := HK5.out; omega⟩, ⟨by (with_reducible repeat (first | apply Kd.R_alloc | apply Kd.R_drewN | apply Kd.R_drew)); exact HO_11.out⟩, bk_ BK318, ⟨sq_below1 HB.out GE318.out⟩⟩
                  ·
                   rw [if_neg c76] at H; exact absurd H (by simp)
                 ·
                  rw [if_neg c75] at H; exact absurd H (by simp)
              ·
               rw [if_neg c71] at H; exact absurd H (by simp)
             ·
              rw [if_neg c70] at H; exact absurd H (by simp)
            ·
             rw [if_neg c69] at H; have c69b0 : decide (x16_4 < (l2_1.length : Int)) = false := decide_eq_false c69; clear c69; obtain rfl := Option.some.inj H; have hcz88_0 := cl_ (v := .slice A2_0 l2_0.length c2_0) BK318 0; have hcz88_1 := cl_ (v := .slice A2_1 l2_1.length c2_1) BK318 1; have hcz88_2 := cl_ (v := .slice A2_2 l2_2.length c2_2) BK318 2; have hfz88_0 := blk_frozen BK318.out 0; have hfz88_1 := blk_frozen BK318.out 1; have hfz88_2 := blk_frozen BK318.out 2
             go_wp2
             go_ret
             exact ⟨by first | rfl | (simp [errW_none, errW_some] <;> rfl) | (simp [*, errW_none, errW_some] <;> rfl), sq_below1 HB.out GE318.out⟩

end Go.Proofs.YtfeloencepgdlaaDoor.Q
