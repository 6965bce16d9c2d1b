/- Functions of the translation as Lean functions, each with a proof that a call answers so; out of the seat, by this claim's own program prt.py. -/
import Derived.Test.YtmibaaicadgchaaDoorWTab
import Derived.Test.YtmibaaicadgchaaDoorWRepsOne
import Derived.Test.YtmibaaicadgchaaDoorQx0
import Derived.Test.YtmibaaicadgchaaDoorQx1
import Derived.Test.YtmibaaicadgchaaDoorQx3
import Derived.Test.YtmibaaicadgchaaDoorQx6
import Derived.Test.YtmibaaicadgchaaDoorQx15
import Derived.Test.YtmibaaicadgchaaDoorQx16
import Derived.Test.YtmibaaicadgchaaDoorQx18
import Derived.Test.YtmibaaicadgchaaDoorQx20
import Derived.Test.YtmibaaicadgchaaDoorQx21
import Derived.Test.YtmibaaicadgchaaDoorQx22
import Derived.Test.YtmibaaicadgchaaDoorQx23
import Derived.Test.YtmibaaicadgchaaDoorQx25
import Derived.Test.YtmibaaicadgchaaDoorQx26
import Derived.Test.YtmibaaicadgchaaDoorQx27
import Derived.Test.YtmibaaicadgchaaDoorQStep
namespace Go.Proofs.YtmibaaicadgchaaDoor.Q
open Go.RowKit Go.Proofs.YtmibaaicadgchaaDoorW.PrintWords Go.Proofs.YtmibaaicadgchaaDoorW.PrintLast Go.Proofs.YtmibaaicadgchaaDoorW.PrintMore
attribute [local go_sem] max2_int min2_int max_two min_two max_three min_three max_four min_four   -- for this text's walks alone
set_option linter.unusedVariables false
set_option linter.unusedSimpArgs false

attribute [local go_sem high] eqA25
/-! ### laws_FnRangeOrder: function 4 -/
abbrev laws_FnRangeOrder.b0_ : Array Bool := #[false, false, false, false, false, false, false, false, false, false, false, false, false, false, false, false, false, false, false, false, false, false, false, false, false, false, false, false, false, false, false]
abbrev laws_FnRangeOrder.b1_ : Array Bool := #[true, false, false, false, false, false, false, false, false, false, false, false, false, false, false, false, false, false, false, false, false, false, false, false, false, false, false, false, false, false, false]
abbrev laws_FnRangeOrder.b2_ : Array Bool := #[true, true, false, false, false, false, false, false, false, false, false, false, false, false, false, false, false, false, false, false, false, false, false, false, false, false, false, false, false, false, false]
abbrev laws_FnRangeOrder.b3_ : Array Bool := #[true, true, true, false, false, false, false, false, false, false, false, false, false, false, false, false, false, false, false, false, false, false, false, false, false, false, false, false, false, false, false]
abbrev laws_FnRangeOrder.b4_ : Array Bool := #[true, true, true, true, false, false, false, false, false, false, false, false, false, false, false, false, false, false, false, false, false, false, false, false, false, false, false, false, false, false, false]
abbrev laws_FnRangeOrder.b5_ : Array Bool := #[true, true, true, true, true, false, false, false, false, false, false, false, false, false, false, false, false, false, false, false, false, false, false, false, false, false, false, false, false, false, false]
abbrev laws_FnRangeOrder.b6_ : Array Bool := #[true, true, true, true, true, true, false, false, false, false, false, false, false, false, false, false, false, false, false, false, false, false, false, false, false, false, false, false, false, false, false]
abbrev laws_FnRangeOrder.b7_ : Array Bool := #[true, true, true, true, true, true, true, false, false, false, false, false, false, false, false, false, false, false, false, false, false, false, false, false, false, false, false, false, false, false, false]
abbrev laws_FnRangeOrder.b8_ : Array Bool := #[true, true, true, true, true, true, true, true, false, false, false, false, false, false, false, false, false, false, false, false, false, false, false, false, false, false, false, false, false, false, false]
abbrev laws_FnRangeOrder.b9_ : Array Bool := #[true, true, true, true, true, true, true, true, true, false, false, false, false, false, false, false, false, false, false, false, false, false, false, false, false, false, false, false, false, false, false]
abbrev laws_FnRangeOrder.b10_ : Array Bool := #[true, true, true, true, true, true, true, true, true, true, false, false, false, false, false, false, false, false, false, false, false, false, false, false, false, false, false, false, false, false, false]
abbrev laws_FnRangeOrder.b11_ : Array Bool := #[true, true, true, true, true, true, true, true, true, true, true, false, false, false, false, false, false, false, false, false, false, false, false, false, false, false, false, false, false, false, false]
abbrev laws_FnRangeOrder.b12_ : Array Bool := #[true, true, true, true, true, true, true, true, true, true, true, true, false, false, false, false, false, false, false, false, false, false, false, false, false, false, false, false, false, false, false]
abbrev laws_FnRangeOrder.b13_ : Array Bool := #[true, true, true, true, true, true, true, true, true, true, true, true, true, false, false, false, false, false, false, false, false, false, false, false, false, false, false, false, false, false, false]
abbrev laws_FnRangeOrder.b14_ : Array Bool := #[true, true, true, true, true, true, true, true, true, true, true, true, true, true, false, false, false, false, false, false, false, false, false, false, false, false, false, false, false, false, false]
abbrev laws_FnRangeOrder.b15_ : Array Bool := #[true, true, true, true, true, true, true, true, true, true, true, true, true, true, true, false, false, false, false, false, false, false, false, false, false, false, false, false, false, false, false]
abbrev laws_FnRangeOrder.b16_ : Array Bool := #[true, true, true, true, true, true, true, true, true, true, true, true, true, true, true, true, false, false, false, false, false, false, false, false, false, false, false, false, false, false, false]
abbrev laws_FnRangeOrder.b17_ : Array Bool := #[true, true, true, true, true, true, true, true, true, true, true, true, true, true, true, true, true, false, false, false, false, false, false, false, false, false, false, false, false, false, false]
abbrev laws_FnRangeOrder.b18_ : Array Bool := #[true, true, true, true, true, true, true, true, true, true, true, true, true, true, true, true, true, true, false, false, false, false, false, false, false, false, false, false, false, false, false]
abbrev laws_FnRangeOrder.b19_ : Array Bool := #[true, true, true, true, true, true, true, true, true, true, true, true, true, true, true, true, true, true, true, false, false, false, false, false, false, false, false, false, false, false, false]
abbrev laws_FnRangeOrder.b20_ : Array Bool := #[true, true, true, true, true, true, true, true, true, true, true, true, true, true, true, true, true, true, true, true, false, false, false, false, false, false, false, false, false, false, false]
abbrev laws_FnRangeOrder.b21_ : Array Bool := #[true, true, true, true, true, true, true, true, true, true, true, true, true, true, true, true, true, true, true, true, true, false, false, false, false, false, false, false, false, false, false]
abbrev laws_FnRangeOrder.b22_ : Array Bool := #[true, true, true, true, true, true, true, true, true, true, true, true, true, true, true, true, true, true, true, true, true, true, false, false, false, false, false, false, false, false, false]
abbrev laws_FnRangeOrder.b23_ : Array Bool := #[true, true, true, true, true, true, true, true, true, true, true, true, true, true, true, true, true, true, true, true, true, true, true, false, false, false, false, false, false, false, false]
abbrev laws_FnRangeOrder.b24_ : Array Bool := #[true, true, true, true, true, true, true, true, true, true, true, true, true, true, true, true, true, true, true, true, true, true, true, true, false, false, false, false, false, false, false]
abbrev laws_FnRangeOrder.b25_ : Array Bool := #[true, true, true, true, true, true, true, true, true, true, true, true, true, true, true, true, true, true, true, true, true, true, true, true, true, false, false, false, false, false, false]
abbrev laws_FnRangeOrder.b26_ : Array Bool := #[true, true, true, true, true, true, true, true, true, true, true, true, true, true, true, true, true, true, true, true, true, true, true, true, true, true, false, false, false, false, false]
abbrev laws_FnRangeOrder.b27_ : Array Bool := #[true, true, true, true, true, true, true, true, true, true, true, true, true, true, true, true, true, true, true, true, true, true, true, true, true, true, true, false, false, false, false]
abbrev laws_FnRangeOrder.b28_ : Array Bool := #[true, true, true, true, true, true, true, true, true, true, true, true, true, true, true, true, true, true, true, true, true, true, true, true, true, true, true, true, false, false, false]
abbrev laws_FnRangeOrder.b29_ : Array Bool := #[true, true, true, true, true, true, true, true, true, true, true, true, true, true, true, true, true, true, true, true, true, true, true, true, true, true, true, true, true, false, false]
abbrev laws_FnRangeOrder.b30_ : Array Bool := #[true, true, true, true, true, true, true, true, true, true, true, true, true, true, true, true, true, true, true, true, true, true, true, true, true, true, true, true, true, true, false]
abbrev laws_FnRangeOrder.b31_ : Array Bool := #[true, true, true, true, true, true, true, true, true, true, true, true, true, true, true, true, true, true, true, true, true, true, true, true, true, true, true, true, true, true, true]
abbrev laws_FnRangeOrder.b32_ : Array Bool := #[false, false, false, false, false, false, false, false, false, false, false, false, false, false, false, false, false, false, false, false]
abbrev laws_FnRangeOrder.b33_ : Array Bool := #[true, false, false, false, false, false, false, false, false, false, false, false, false, false, false, false, false, false, false, false]
abbrev laws_FnRangeOrder.b34_ : Array Bool := #[true, true, false, false, false, false, false, false, false, false, false, false, false, false, false, false, false, false, false, false]
abbrev laws_FnRangeOrder.b35_ : Array Bool := #[true, true, true, false, false, false, false, false, false, false, false, false, false, false, false, false, false, false, false, false]
abbrev laws_FnRangeOrder.b36_ : Array Bool := #[true, true, true, true, false, false, false, false, false, false, false, false, false, false, false, false, false, false, false, false]
abbrev laws_FnRangeOrder.b37_ : Array Bool := #[true, true, true, true, true, false, false, false, false, false, false, false, false, false, false, false, false, false, false, false]
abbrev laws_FnRangeOrder.b38_ : Array Bool := #[true, true, true, true, true, true, false, false, false, false, false, false, false, false, false, false, false, false, false, false]
abbrev laws_FnRangeOrder.b39_ : Array Bool := #[true, true, true, true, true, true, true, false, false, false, false, false, false, false, false, false, false, false, false, false]
abbrev laws_FnRangeOrder.b40_ : Array Bool := #[true, true, true, true, true, true, true, true, false, false, false, false, false, false, false, false, false, false, false, false]
abbrev laws_FnRangeOrder.b41_ : Array Bool := #[true, true, true, true, true, true, true, true, true, false, false, false, false, false, false, false, false, false, false, false]
abbrev laws_FnRangeOrder.b42_ : Array Bool := #[true, true, true, true, true, true, true, true, true, true, false, false, false, false, false, false, false, false, false, false]
abbrev laws_FnRangeOrder.b43_ : Array Bool := #[true, true, true, true, true, true, true, true, true, true, true, false, false, false, false, false, false, false, false, false]
abbrev laws_FnRangeOrder.b44_ : Array Bool := #[true, true, true, true, true, true, true, true, true, true, true, true, false, false, false, false, false, false, false, false]
abbrev laws_FnRangeOrder.b45_ : Array Bool := #[true, true, true, true, true, true, true, true, true, true, true, true, true, false, false, false, false, false, false, false]
abbrev laws_FnRangeOrder.b46_ : Array Bool := #[true, true, true, true, true, true, true, true, true, true, true, true, true, true, false, false, false, false, false, false]
abbrev laws_FnRangeOrder.b47_ : Array Bool := #[true, true, true, true, true, true, true, true, true, true, true, true, true, true, true, false, false, false, false, false]
abbrev laws_FnRangeOrder.b48_ : Array Bool := #[true, true, true, true, true, true, true, true, true, true, true, true, true, true, true, true, false, false, false, false]
abbrev laws_FnRangeOrder.b49_ : Array Bool := #[true, true, true, true, true, true, true, true, true, true, true, true, true, true, true, true, true, false, false, false]
abbrev laws_FnRangeOrder.b50_ : Array Bool := #[true, true, true, true, true, true, true, true, true, true, true, true, true, true, true, true, true, true, false, false]
abbrev laws_FnRangeOrder.b51_ : Array Bool := #[true, true, true, true, true, true, true, true, true, true, true, true, true, true, true, true, true, true, true, false]
abbrev laws_FnRangeOrder.b52_ : Array Bool := #[true, true, true, true, true, true, true, true, true, true, true, true, true, true, true, true, true, true, true, true]
mutual
def laws_FnRangeOrder.j0 : Nat → List Int → List Int → Bool → Option (Bool)
 | 0, _, _, _ => none
 | k + 1, x0, x1, x20 => if x20 = true then (some true) else ((spec_DrawRangeJoin.f x0).bind fun bt541 => ((spec_DrawRangeWiden.f k x1).bind fun bt547 => ((impl_RangeJoin.f k bt541.1 bt541.2.1 bt541.2.2.1 bt541.2.2.2).bind fun bt556 => ((impl_RangeMeet.f k bt541.1 bt541.2.1 bt541.2.2.1 bt541.2.2.2).bind fun bt559 => ((impl_RangeWiden.f k bt541.1 bt541.2.1 bt541.2.2.1 bt541.2.2.2 bt547.2.2.2.2).bind fun bt562 => ((spec_RangeJoin.f k bt541.1 bt541.2.1 bt541.2.2.1 bt541.2.2.2).bind fun bt565 => (if (!(bt556.1 == bt565.1) || (!(bt556.2 == bt565.2))) = true then (laws_FnRangeOrder.j1 k true bt541.1 bt541.2.1 bt541.2.2.1 bt541.2.2.2 bt547.1 bt547.2.1 bt556.1 bt556.2 bt559.1 bt559.2 bt562.1 bt562.2) else ((spec_RangeMeet.f bt541.1 bt541.2.1 bt541.2.2.1 bt541.2.2.2).bind fun bt567 => (if (!(bt559.1 == bt567.1) || (!(bt559.2 == bt567.2))) = true then (laws_FnRangeOrder.j1 k true bt541.1 bt541.2.1 bt541.2.2.1 bt541.2.2.2 bt547.1 bt547.2.1 bt556.1 bt556.2 bt559.1 bt559.2 bt562.1 bt562.2) else ((spec_RangeWiden.f k bt541.1 bt541.2.1 bt541.2.2.1 bt541.2.2.2 bt547.2.2.2.2).bind fun bt569 => (laws_FnRangeOrder.j1 k (!(bt562.1 == bt569.1) || (!(bt562.2 == bt569.2))) bt541.1 bt541.2.1 bt541.2.2.1 bt541.2.2.2 bt547.1 bt547.2.1 bt556.1 bt556.2 bt559.1 bt559.2 bt562.1 bt562.2)))))))))))
def laws_FnRangeOrder.j1 : Nat → Bool → Int → Int → Int → Int → Int → Int → Int → Int → Int → Int → Int → Int → Option (Bool)
 | 0, _, _, _, _, _, _, _, _, _, _, _, _, _ => none
 | k + 1, x61, x546000, x546001, x547000, x547001, x555000, x555001, x559000, x559001, x562000, x562001, x565000, x565001 => if x61 = true then (some false) else ((spec_RangeOk.f x546000 x546001).bind fun t571 => (if t571 = true then ((spec_RangeOk.f x547000 x547001).bind fun t572 => (laws_FnRangeOrder.j2 k (!t572) x546000 x546001 x547000 x547001 x555000 x555001 x559000 x559001 x562000 x562001 x565000 x565001)) else (laws_FnRangeOrder.j2 k true x546000 x546001 x547000 x547001 x555000 x555001 x559000 x559001 x562000 x562001 x565000 x565001)))
def laws_FnRangeOrder.j2 : Nat → Bool → Int → Int → Int → Int → Int → Int → Int → Int → Int → Int → Int → Int → Option (Bool)
 | 0, _, _, _, _, _, _, _, _, _, _, _, _, _ => none
 | k + 1, x69, x546000, x546001, x547000, x547001, x555000, x555001, x559000, x559001, x562000, x562001, x565000, x565001 => if x69 = true then (some true) else ((impl_RangeLeq.f x546000 x546001 x559000 x559001).bind fun t573 => (if t573 = true then ((impl_RangeLeq.f x547000 x547001 x559000 x559001).bind fun t574 => (if t574 = true then ((impl_RangeLeq.f x562000 x562001 x546000 x546001).bind fun t575 => (if t575 = true then ((impl_RangeLeq.f x562000 x562001 x547000 x547001).bind fun t576 => (if t576 = true then ((impl_RangeLeq.f x546000 x546001 x547000 x547001).bind fun t577 => (laws_FnRangeOrder.j3 k (t577 != (x559000 == x547000 && (x559001 == x547001))) x546000 x546001 x547000 x547001 x555000 x555001 x559000 x559001 x565000 x565001)) else (laws_FnRangeOrder.j3 k true x546000 x546001 x547000 x547001 x555000 x555001 x559000 x559001 x565000 x565001))) else (laws_FnRangeOrder.j3 k true x546000 x546001 x547000 x547001 x555000 x555001 x559000 x559001 x565000 x565001))) else (laws_FnRangeOrder.j3 k true x546000 x546001 x547000 x547001 x555000 x555001 x559000 x559001 x565000 x565001))) else (laws_FnRangeOrder.j3 k true x546000 x546001 x547000 x547001 x555000 x555001 x559000 x559001 x565000 x565001)))
def laws_FnRangeOrder.j3 : Nat → Bool → Int → Int → Int → Int → Int → Int → Int → Int → Int → Int → Option (Bool)
 | 0, _, _, _, _, _, _, _, _, _, _, _ => none
 | k + 1, x100, x546000, x546001, x547000, x547001, x555000, x555001, x559000, x559001, x565000, x565001 => if x100 = true then (some false) else ((spec_RangeOk.f x555000 x555001).bind fun t578 => (if t578 = true then ((spec_RangeLeq.f x546000 x546001 x555000 x555001).bind fun t579 => (if t579 = true then ((spec_RangeLeq.f x547000 x547001 x555000 x555001).bind fun t580 => (if t580 = true then ((impl_RangeLeq.f x559000 x559001 x555000 x555001).bind fun t581 => (laws_FnRangeOrder.j4 k (!t581) x546000 x546001 x547000 x547001 x559000 x559001 x565000 x565001)) else (laws_FnRangeOrder.j4 k false x546000 x546001 x547000 x547001 x559000 x559001 x565000 x565001))) else (laws_FnRangeOrder.j4 k false x546000 x546001 x547000 x547001 x559000 x559001 x565000 x565001))) else (laws_FnRangeOrder.j4 k false x546000 x546001 x547000 x547001 x559000 x559001 x565000 x565001)))
def laws_FnRangeOrder.j4 : Nat → Bool → Int → Int → Int → Int → Int → Int → Int → Int → Option (Bool)
 | 0, _, _, _, _, _, _, _, _, _ => none
 | k + 1, x118, x546000, x546001, x547000, x547001, x559000, x559001, x565000, x565001 => if x118 = true then (some false) else ((spec_RangeText.f k x565000 x565001).bind fun t582 => (if (t582.size : Int) > 0 then (if x565000 ≤ x565001 then ((impl_RangeLeq.f x546000 x546001 x565000 x565001).bind fun t583 => (if t583 = true then ((impl_RangeLeq.f x547000 x547001 x565000 x565001).bind fun t584 => (laws_FnRangeOrder.j5 k (!t584) x559000 x559001)) else (laws_FnRangeOrder.j5 k true x559000 x559001))) else (laws_FnRangeOrder.j5 k false x559000 x559001)) else (laws_FnRangeOrder.j5 k false x559000 x559001)))
def laws_FnRangeOrder.j5 : Nat → Bool → Int → Int → Option (Bool)
 | 0, _, _, _ => none
 | k + 1, x141, x559000, x559001 => if x141 = true then (some false) else ((impl_RangeText.f x559000 x559001).bind fun t585 => ((impl_RangeRead.f t585).bind fun bt586 => (if bt586.2.2 = true then (some (bt586.1 == x559000 && (bt586.2.1 == x559001))) else (some false))))
end
def laws_FnRangeOrder.f (k : Nat) (l0 : List Int) (l1 : List Int) : Option (Bool) := (laws_big.f l0).bind fun t539 => (if t539 = true then (laws_FnRangeOrder.j0 k l0 l1 true) else ((laws_big.f l1).bind fun t540 => (laws_FnRangeOrder.j0 k l0 l1 t540)))
theorem laws_FnRangeOrder.mono_l : ∀ k, (∀ y0 y1 y2, LeO (laws_FnRangeOrder.j0 k y0 y1 y2) (laws_FnRangeOrder.j0 (k + 1) y0 y1 y2)) ∧ (∀ y0 y1 y2 y3 y4 y5 y6 y7 y8 y9 y10 y11 y12, LeO (laws_FnRangeOrder.j1 k y0 y1 y2 y3 y4 y5 y6 y7 y8 y9 y10 y11 y12) (laws_FnRangeOrder.j1 (k + 1) y0 y1 y2 y3 y4 y5 y6 y7 y8 y9 y10 y11 y12)) ∧ (∀ y0 y1 y2 y3 y4 y5 y6 y7 y8 y9 y10 y11 y12, LeO (laws_FnRangeOrder.j2 k y0 y1 y2 y3 y4 y5 y6 y7 y8 y9 y10 y11 y12) (laws_FnRangeOrder.j2 (k + 1) y0 y1 y2 y3 y4 y5 y6 y7 y8 y9 y10 y11 y12)) ∧ (∀ y0 y1 y2 y3 y4 y5 y6 y7 y8 y9 y10, LeO (laws_FnRangeOrder.j3 k y0 y1 y2 y3 y4 y5 y6 y7 y8 y9 y10) (laws_FnRangeOrder.j3 (k + 1) y0 y1 y2 y3 y4 y5 y6 y7 y8 y9 y10)) ∧ (∀ y0 y1 y2 y3 y4 y5 y6 y7 y8, LeO (laws_FnRangeOrder.j4 k y0 y1 y2 y3 y4 y5 y6 y7 y8) (laws_FnRangeOrder.j4 (k + 1) y0 y1 y2 y3 y4 y5 y6 y7 y8)) ∧ (∀ y0 y1 y2, LeO (laws_FnRangeOrder.j5 k y0 y1 y2) (laws_FnRangeOrder.j5 (k + 1) y0 y1 y2))
 | 0 => ⟨fun _ _ _ r h => by simp [laws_FnRangeOrder.j0] at h, fun _ _ _ _ _ _ _ _ _ _ _ _ _ r h => by simp [laws_FnRangeOrder.j1] at h, fun _ _ _ _ _ _ _ _ _ _ _ _ _ r h => by simp [laws_FnRangeOrder.j2] at h, fun _ _ _ _ _ _ _ _ _ _ _ r h => by simp [laws_FnRangeOrder.j3] at h, fun _ _ _ _ _ _ _ _ _ r h => by simp [laws_FnRangeOrder.j4] at h, fun _ _ _ r h => by simp [laws_FnRangeOrder.j5] at h⟩
 | k + 1 => by
  obtain ⟨ih0, ih1, ih2, ih3, ih4, ih5⟩ := laws_FnRangeOrder.mono_l k; refine ⟨?_, ?_, ?_, ?_, ?_, ?_⟩
  ·
   intro y0 y1 y2; unfold laws_FnRangeOrder.j0
   repeat' first
   | (with_reducible exact ih0 _ _ _)
   | (with_reducible exact ih1 _ _ _ _ _ _ _ _ _ _ _ _ _)
   | (with_reducible exact ih2 _ _ _ _ _ _ _ _ _ _ _ _ _)
   | (with_reducible exact ih3 _ _ _ _ _ _ _ _ _ _ _)
   | (with_reducible exact ih4 _ _ _ _ _ _ _ _ _)
   | (with_reducible exact ih5 _ _ _)
   | (with_reducible exact impl_RangeJoin.mono _ _ _ _ _)
   | (with_reducible exact impl_RangeMeet.mono _ _ _ _ _)
   | (with_reducible exact impl_RangeWiden.mono _ _ _ _ _ _)
   | (with_reducible exact spec_DrawRangeWiden.mono _ _)
   | (with_reducible exact spec_RangeJoin.mono _ _ _ _ _)
   | (with_reducible exact spec_RangeText.mono _ _ _)
   | (with_reducible exact spec_RangeWiden.mono _ _ _ _ _ _)
   | (with_reducible exact LeO.refl _)
   | (with_reducible exact LeO.none _)
   | (with_reducible refine LeO.ite ?_ ?_)
   | (with_reducible refine LeO.bind ?_ (fun _ => ?_))
   | exact ih0 _ _ _
   | exact ih1 _ _ _ _ _ _ _ _ _ _ _ _ _
   | exact ih2 _ _ _ _ _ _ _ _ _ _ _ _ _
   | exact ih3 _ _ _ _ _ _ _ _ _ _ _
   | exact ih4 _ _ _ _ _ _ _ _ _
   | exact ih5 _ _ _
   | exact impl_RangeJoin.mono _ _ _ _ _
   | exact impl_RangeMeet.mono _ _ _ _ _
   | exact impl_RangeWiden.mono _ _ _ _ _ _
   | exact spec_DrawRangeWiden.mono _ _
   | exact spec_RangeJoin.mono _ _ _ _ _
   | exact spec_RangeText.mono _ _ _
   | exact spec_RangeWiden.mono _ _ _ _ _ _
   | exact LeO.none _
   | refine LeO.ite ?_ ?_
   | refine LeO.bind ?_ (fun _ => ?_)
  ·
   intro y0 y1 y2 y3 y4 y5 y6 y7 y8 y9 y10 y11 y12; unfold laws_FnRangeOrder.j1
   repeat' first
   | (with_reducible exact ih0 _ _ _)
   | (with_reducible exact ih1 _ _ _ _ _ _ _ _ _ _ _ _ _)
   | (with_reducible exact ih2 _ _ _ _ _ _ _ _ _ _ _ _ _)
   | (with_reducible exact ih3 _ _ _ _ _ _ _ _ _ _ _)
   | (with_reducible exact ih4 _ _ _ _ _ _ _ _ _)
   | (with_reducible exact ih5 _ _ _)
   | (with_reducible exact impl_RangeJoin.mono _ _ _ _ _)
   | (with_reducible exact impl_RangeMeet.mono _ _ _ _ _)
   | (with_reducible exact impl_RangeWiden.mono _ _ _ _ _ _)
   | (with_reducible exact spec_DrawRangeWiden.mono _ _)
   | (with_reducible exact spec_RangeJoin.mono _ _ _ _ _)
   | (with_reducible exact spec_RangeText.mono _ _ _)
   | (with_reducible exact spec_RangeWiden.mono _ _ _ _ _ _)
   | (with_reducible exact LeO.refl _)
   | (with_reducible exact LeO.none _)
   | (with_reducible refine LeO.ite ?_ ?_)
   | (with_reducible refine LeO.bind ?_ (fun _ => ?_))
   | exact ih0 _ _ _
   | exact ih1 _ _ _ _ _ _ _ _ _ _ _ _ _
   | exact ih2 _ _ _ _ _ _ _ _ _ _ _ _ _
   | exact ih3 _ _ _ _ _ _ _ _ _ _ _
   | exact ih4 _ _ _ _ _ _ _ _ _
   | exact ih5 _ _ _
   | exact impl_RangeJoin.mono _ _ _ _ _
   | exact impl_RangeMeet.mono _ _ _ _ _
   | exact impl_RangeWiden.mono _ _ _ _ _ _
   | exact spec_DrawRangeWiden.mono _ _
   | exact spec_RangeJoin.mono _ _ _ _ _
   | exact spec_RangeText.mono _ _ _
   | exact spec_RangeWiden.mono _ _ _ _ _ _
   | exact LeO.none _
   | refine LeO.ite ?_ ?_
   | refine LeO.bind ?_ (fun _ => ?_)
  ·
   intro y0 y1 y2 y3 y4 y5 y6 y7 y8 y9 y10 y11 y12; unfold laws_FnRangeOrder.j2
   repeat' first
   | (with_reducible exact ih0 _ _ _)
   | (with_reducible exact ih1 _ _ _ _ _ _ _ _ _ _ _ _ _)
   | (with_reducible exact ih2 _ _ _ _ _ _ _ _ _ _ _ _ _)
   | (with_reducible exact ih3 _ _ _ _ _ _ _ _ _ _ _)
   | (with_reducible exact ih4 _ _ _ _ _ _ _ _ _)
   | (with_reducible exact ih5 _ _ _)
   | (with_reducible exact impl_RangeJoin.mono _ _ _ _ _)
   | (with_reducible exact impl_RangeMeet.mono _ _ _ _ _)
   | (with_reducible exact impl_RangeWiden.mono _ _ _ _ _ _)
   | (with_reducible exact spec_DrawRangeWiden.mono _ _)
   | (with_reducible exact spec_RangeJoin.mono _ _ _ _ _)
   | (with_reducible exact spec_RangeText.mono _ _ _)
   | (with_reducible exact spec_RangeWiden.mono _ _ _ _ _ _)
   | (with_reducible exact LeO.refl _)
   | (with_reducible exact LeO.none _)
   | (with_reducible refine LeO.ite ?_ ?_)
   | (with_reducible refine LeO.bind ?_ (fun _ => ?_))
   | exact ih0 _ _ _
   | exact ih1 _ _ _ _ _ _ _ _ _ _ _ _ _
   | exact ih2 _ _ _ _ _ _ _ _ _ _ _ _ _
   | exact ih3 _ _ _ _ _ _ _ _ _ _ _
   | exact ih4 _ _ _ _ _ _ _ _ _
   | exact ih5 _ _ _
   | exact impl_RangeJoin.mono _ _ _ _ _
   | exact impl_RangeMeet.mono _ _ _ _ _
   | exact impl_RangeWiden.mono _ _ _ _ _ _
   | exact spec_DrawRangeWiden.mono _ _
   | exact spec_RangeJoin.mono _ _ _ _ _
   | exact spec_RangeText.mono _ _ _
   | exact spec_RangeWiden.mono _ _ _ _ _ _
   | exact LeO.none _
   | refine LeO.ite ?_ ?_
   | refine LeO.bind ?_ (fun _ => ?_)
  ·
   intro y0 y1 y2 y3 y4 y5 y6 y7 y8 y9 y10; unfold laws_FnRangeOrder.j3
   repeat' first
   | (with_reducible exact ih0 _ _ _)
   | (with_reducible exact ih1 _ _ _ _ _ _ _ _ _ _ _ _ _)
   | (with_reducible exact ih2 _ _ _ _ _ _ _ _ _ _ _ _ _)
   | (with_reducible exact ih3 _ _ _ _ _ _ _ _ _ _ _)
   | (with_reducible exact ih4 _ _ _ _ _ _ _ _ _)
   | (with_reducible exact ih5 _ _ _)
   | (with_reducible exact impl_RangeJoin.mono _ _ _ _ _)
   | (with_reducible exact impl_RangeMeet.mono _ _ _ _ _)
   | (with_reducible exact impl_RangeWiden.mono _ _ _ _ _ _)
   | (with_reducible exact spec_DrawRangeWiden.mono _ _)
   | (with_reducible exact spec_RangeJoin.mono _ _ _ _ _)
   | (with_reducible exact spec_RangeText.mono _ _ _)
   | (with_reducible exact spec_RangeWiden.mono _ _ _ _ _ _)
   | (with_reducible exact LeO.refl _)
   | (with_reducible exact LeO.none _)
   | (with_reducible refine LeO.ite ?_ ?_)
   | (with_reducible refine LeO.bind ?_ (fun _ => ?_))
   | exact ih0 _ _ _
   | exact ih1 _ _ _ _ _ _ _ _ _ _ _ _ _
   | exact ih2 _ _ _ _ _ _ _ _ _ _ _ _ _
   | exact ih3 _ _ _ _ _ _ _ _ _ _ _
   | exact ih4 _ _ _ _ _ _ _ _ _
   | exact ih5 _ _ _
   | exact impl_RangeJoin.mono _ _ _ _ _
   | exact impl_RangeMeet.mono _ _ _ _ _
   | exact impl_RangeWiden.mono _ _ _ _ _ _
   | exact spec_DrawRangeWiden.mono _ _
   | exact spec_RangeJoin.mono _ _ _ _ _
   | exact spec_RangeText.mono _ _ _
   | exact spec_RangeWiden.mono _ _ _ _ _ _
   | exact LeO.none _
   | refine LeO.ite ?_ ?_
   | refine LeO.bind ?_ (fun _ => ?_)
  ·
   intro y0 y1 y2 y3 y4 y5 y6 y7 y8; unfold laws_FnRangeOrder.j4
   repeat' first
   | (with_reducible exact ih0 _ _ _)
   | (with_reducible exact ih1 _ _ _ _ _ _ _ _ _ _ _ _ _)
   | (with_reducible exact ih2 _ _ _ _ _ _ _ _ _ _ _ _ _)
   | (with_reducible exact ih3 _ _ _ _ _ _ _ _ _ _ _)
   | (with_reducible exact ih4 _ _ _ _ _ _ _ _ _)
   | (with_reducible exact ih5 _ _ _)
   | (with_reducible exact impl_RangeJoin.mono _ _ _ _ _)
   | (with_reducible exact impl_RangeMeet.mono _ _ _ _ _)
   | (with_reducible exact impl_RangeWiden.mono _ _ _ _ _ _)
   | (with_reducible exact spec_DrawRangeWiden.mono _ _)
   | (with_reducible exact spec_RangeJoin.mono _ _ _ _ _)
   | (with_reducible exact spec_RangeText.mono _ _ _)
   | (with_reducible exact spec_RangeWiden.mono _ _ _ _ _ _)
   | (with_reducible exact LeO.refl _)
   | (with_reducible exact LeO.none _)
   | (with_reducible refine LeO.ite ?_ ?_)
   | (with_reducible refine LeO.bind ?_ (fun _ => ?_))
   | exact ih0 _ _ _
   | exact ih1 _ _ _ _ _ _ _ _ _ _ _ _ _
   | exact ih2 _ _ _ _ _ _ _ _ _ _ _ _ _
   | exact ih3 _ _ _ _ _ _ _ _ _ _ _
   | exact ih4 _ _ _ _ _ _ _ _ _
   | exact ih5 _ _ _
   | exact impl_RangeJoin.mono _ _ _ _ _
   | exact impl_RangeMeet.mono _ _ _ _ _
   | exact impl_RangeWiden.mono _ _ _ _ _ _
   | exact spec_DrawRangeWiden.mono _ _
   | exact spec_RangeJoin.mono _ _ _ _ _
   | exact spec_RangeText.mono _ _ _
   | exact spec_RangeWiden.mono _ _ _ _ _ _
   | exact LeO.none _
   | refine LeO.ite ?_ ?_
   | refine LeO.bind ?_ (fun _ => ?_)
  ·
   intro y0 y1 y2; unfold laws_FnRangeOrder.j5
   repeat' first
   | (with_reducible exact ih0 _ _ _)
   | (with_reducible exact ih1 _ _ _ _ _ _ _ _ _ _ _ _ _)
   | (with_reducible exact ih2 _ _ _ _ _ _ _ _ _ _ _ _ _)
   | (with_reducible exact ih3 _ _ _ _ _ _ _ _ _ _ _)
   | (with_reducible exact ih4 _ _ _ _ _ _ _ _ _)
   | (with_reducible exact ih5 _ _ _)
   | (with_reducible exact impl_RangeJoin.mono _ _ _ _ _)
   | (with_reducible exact impl_RangeMeet.mono _ _ _ _ _)
   | (with_reducible exact impl_RangeWiden.mono _ _ _ _ _ _)
   | (with_reducible exact spec_DrawRangeWiden.mono _ _)
   | (with_reducible exact spec_RangeJoin.mono _ _ _ _ _)
   | (with_reducible exact spec_RangeText.mono _ _ _)
   | (with_reducible exact spec_RangeWiden.mono _ _ _ _ _ _)
   | (with_reducible exact LeO.refl _)
   | (with_reducible exact LeO.none _)
   | (with_reducible refine LeO.ite ?_ ?_)
   | (with_reducible refine LeO.bind ?_ (fun _ => ?_))
   | exact ih0 _ _ _
   | exact ih1 _ _ _ _ _ _ _ _ _ _ _ _ _
   | exact ih2 _ _ _ _ _ _ _ _ _ _ _ _ _
   | exact ih3 _ _ _ _ _ _ _ _ _ _ _
   | exact ih4 _ _ _ _ _ _ _ _ _
   | exact ih5 _ _ _
   | exact impl_RangeJoin.mono _ _ _ _ _
   | exact impl_RangeMeet.mono _ _ _ _ _
   | exact impl_RangeWiden.mono _ _ _ _ _ _
   | exact spec_DrawRangeWiden.mono _ _
   | exact spec_RangeJoin.mono _ _ _ _ _
   | exact spec_RangeText.mono _ _ _
   | exact spec_RangeWiden.mono _ _ _ _ _ _
   | exact LeO.none _
   | refine LeO.ite ?_ ?_
   | refine LeO.bind ?_ (fun _ => ?_)
theorem laws_FnRangeOrder.mono : ∀ a0 a1 k, LeO (laws_FnRangeOrder.f k a0 a1) (laws_FnRangeOrder.f (k + 1) a0 a1) := by
 intro a0 a1 k; obtain ⟨ih0, ih1, ih2, ih3, ih4, ih5⟩ := laws_FnRangeOrder.mono_l k; unfold laws_FnRangeOrder.f
 repeat' first
   | (with_reducible exact ih0 _ _ _)
   | (with_reducible exact ih1 _ _ _ _ _ _ _ _ _ _ _ _ _)
   | (with_reducible exact ih2 _ _ _ _ _ _ _ _ _ _ _ _ _)
   | (with_reducible exact ih3 _ _ _ _ _ _ _ _ _ _ _)
   | (with_reducible exact ih4 _ _ _ _ _ _ _ _ _)
   | (with_reducible exact ih5 _ _ _)
   | (with_reducible exact impl_RangeJoin.mono _ _ _ _ _)
   | (with_reducible exact impl_RangeMeet.mono _ _ _ _ _)
   | (with_reducible exact impl_RangeWiden.mono _ _ _ _ _ _)
   | (with_reducible exact spec_DrawRangeWiden.mono _ _)
   | (with_reducible exact spec_RangeJoin.mono _ _ _ _ _)
   | (with_reducible exact spec_RangeText.mono _ _ _)
   | (with_reducible exact spec_RangeWiden.mono _ _ _ _ _ _)
   | (with_reducible exact LeO.refl _)
   | (with_reducible exact LeO.none _)
   | (with_reducible refine LeO.ite ?_ ?_)
   | (with_reducible refine LeO.bind ?_ (fun _ => ?_))
   | exact ih0 _ _ _
   | exact ih1 _ _ _ _ _ _ _ _ _ _ _ _ _
   | exact ih2 _ _ _ _ _ _ _ _ _ _ _ _ _
   | exact ih3 _ _ _ _ _ _ _ _ _ _ _
   | exact ih4 _ _ _ _ _ _ _ _ _
   | exact ih5 _ _ _
   | exact impl_RangeJoin.mono _ _ _ _ _
   | exact impl_RangeMeet.mono _ _ _ _ _
   | exact impl_RangeWiden.mono _ _ _ _ _ _
   | exact spec_DrawRangeWiden.mono _ _
   | exact spec_RangeJoin.mono _ _ _ _ _
   | exact spec_RangeText.mono _ _ _
   | exact spec_RangeWiden.mono _ _ _ _ _ _
   | exact LeO.none _
   | refine LeO.ite ?_ ?_
   | refine LeO.bind ?_ (fun _ => ?_)
def laws_FnRangeOrder.T8 : Bool × List (List Nat × List Nat) := (true, [([], []), ([], []), ([], []), ([1, 2], [1, 2]), ([0, 3], [0, 3]), ([4, 3], [4]), ([5], [5]), ([5], [5]), ([5], [5]), ([7, 8, 5, 5], [5, 7, 8]), ([6, 9, 5], [5, 6, 9]), ([5, 10], [5, 10]), ([11, 9], [11]), ([12], [12]), ([12], [12]), ([12], [12]), ([12], [12]), ([14, 15, 16, 12, 12], [12, 14, 15, 16]), ([13, 17, 12], [12, 13, 17]), ([12, 18], [12, 18])])
def laws_FnRangeOrder.B8 : List Nat := [0, 0, 0, 6, 15, 31, 63, 63, 63, 447, 1023, 2047, 4095, 8191, 8191, 8191, 8191, 122879, 262143, 524287]
theorem laws_FnRangeOrder.tab8 : rtab .any (opsOf Tryd.f4 8) = laws_FnRangeOrder.T8 := by kernel_rfl
theorem laws_FnRangeOrder.bits8 : waitsOk laws_FnRangeOrder.T8.2 laws_FnRangeOrder.B8 = true := by kernel_rfl
def laws_FnRangeOrder.T12 : Bool × List (List Nat × List Nat) := (true, [([], []), ([], []), ([0, 1], [0, 1]), ([2], [2]), ([3, 2], [3]), ([4], [4]), ([4], [4]), ([5, 6, 4, 4], [4, 5, 6]), ([7, 4], [4, 7]), ([4, 8], [4, 8]), ([9, 7], [9]), ([10], [10]), ([10], [10]), ([11, 12, 10, 10], [10, 11, 12]), ([13, 10], [10, 13]), ([10, 14], [10, 14]), ([15, 13], [15]), ([16], [16]), ([16], [16]), ([17, 18, 16, 16], [16, 17, 18]), ([19, 16], [16, 19]), ([16, 20], [16, 20]), ([21, 19], [21]), ([22], [22]), ([22], [22]), ([23, 24, 22, 22], [22, 23, 24]), ([22], [22]), ([22], [22]), ([26, 27, 22], [22, 26, 27]), ([25, 28, 22], [22, 25, 28]), ([22, 29], [22, 29])])
def laws_FnRangeOrder.B12 : List Nat := [0, 0, 3, 7, 15, 31, 31, 127, 255, 511, 1023, 2047, 2047, 8191, 16383, 32767, 65535, 131071, 131071, 524287, 1048575, 2097151, 4194303, 8388607, 8388607, 33554431, 8388607, 8388607, 209715199, 536870911, 1073741823]
theorem laws_FnRangeOrder.tab12 : rtab .any (opsOf Tryd.f4 12) = laws_FnRangeOrder.T12 := by kernel_rfl
theorem laws_FnRangeOrder.bits12 : waitsOk laws_FnRangeOrder.T12.2 laws_FnRangeOrder.B12 = true := by kernel_rfl
set_option maxHeartbeats 8000000 in
set_option maxRecDepth 100000 in
theorem laws_FnRangeOrder.calls (k : Nat) (A0 : Option Addr) (c0 : Nat) (l0 : List Int) (A1 : Option Addr) (c1 : Nat) (l1 : List Int) (r : Bool) (w : World) (hG0 : GL0 w) (hG2 : GL2 w) (hG3 : GL3 w) (hG4 : GL4 w) (hG5 : GL5 w) (hr0 : Kd.C (Kd.int .u8) w A0 l0.length l0) (hc0 : l0.length ≤ c0) (hr1 : Kd.C (Kd.int .u8) w A1 l1.length l1) (hc1 : l1.length ≤ c1) (h : laws_FnRangeOrder.f k l0 l1 = some r) (hr_ : r = true) :
  Calls Tryd.prog 4 #[.slice A0 l0.length c0, .slice A1 l1.length c1] w fun e w' => e = .returned (.bool r) ∧ Below w.heap.size w w' := by
 have hu25 := Tryd.underlying25; have HR0 := Aside0.mk hr0; have HC0 := Aside0.mk hc0; clear hr0 hc0; have HR1 := Aside0.mk hr1; have HC1 := Aside0.mk hc1; clear hr1 hc1; have HB := Aside0.mk (Below.refl w.heap.size w); have HG0 := Aside0.mk hG0; clear hG0; have HG2 := Aside0.mk hG2; clear hG2; have HG3 := Aside0.mk hG3; clear hG3; have HG4 := Aside0.mk hG4; clear hG4; have HG5 := Aside0.mk hG5; clear hG5; have H : ((laws_big.f l0).bind fun t539 => (if t539 = true then (laws_FnRangeOrder.j0 k l0 l1 true) else ((laws_big.f l1).bind fun t540 => (laws_FnRangeOrder.j0 k l0 l1 t540)))) = some r := h; clear h; have HC3 := Aside0.mk H; clear H
 go_enter Tryd.func4, Tryd.ntmps4
 go_upto_region 1 with (fail)
 go_cut [20] (fun v20 wc => ∃ (kq : Nat) (x20_2 : Bool), v20 = .bool x20_2 ∧ Aside0 (laws_FnRangeOrder.j0 kq l0 l1 x20_2 = some r) ∧ Aside0 (kq ≤ k) ∧ Aside0 (Below w.heap.size w wc))
 case first =>
  have H := HC3.out; clear HC3; replace H := Option.bind_eq_some_iff.mp H; obtain ⟨t539, A40, H⟩ := H; (try dsimp only at H); have A4 := Aside0.mk A40; clear A40
  by_cases c5 : t539 = true
  ·
   subst c5; have H1 : (laws_FnRangeOrder.j0 k l0 l1 true) = some r := by rw [if_pos rfl] at H; exact H
   clear H; have H := H1; clear H1
   as_aux_lemma =>
    have H' := Aside0.mk H; clear H
    go_wp2_with (first | ((with_reducible refine gate_callee (f := 6) rfl ?_); refine gl_ 16 Tryd.func6 #[.slice A0 l0.length c0] (h := ?_); (with_reducible refine (laws_big.calls _ _ l0 true _ ?side1 ?side2 A4.out).mono ?_); (case side1 => exact sq_c (Kd.C_below HR0.out HB.out)); (case side2 => exact HC0.out); rintro e w' ⟨rfl, ⟨nd, rfl⟩⟩; refine ⟨_, rfl, ?_⟩))
    go_meet
    case rel => exact ⟨_, (true), (by first | rfl | (simp; done) | (simp [*]; done)), H', ⟨by first | omega | exact Nat.le_refl _⟩, ⟨by repeat (first | (with_reducible first | exact HB.out | apply below_alloc | apply pw_below_drewN | apply below_drew1) | exact HB.out)⟩⟩
  ·
   replace c5 := Bool.eq_false_iff.mpr c5; subst c5; have H1 : ((laws_big.f l1).bind fun t540 => (laws_FnRangeOrder.j0 k l0 l1 t540)) = some r := by rw [if_neg (show ¬ (false = true) by decide)] at H; exact H
   clear H; have H := H1; clear H1; replace H := Option.bind_eq_some_iff.mp H; obtain ⟨t540, A60, H⟩ := H; replace H : (laws_FnRangeOrder.j0 k l0 l1 t540) = some r := H; have A6 := Aside0.mk A60; clear A60
   as_aux_lemma =>
    have H' := Aside0.mk H; clear H
    go_wp2_with (first | ((with_reducible refine gate_callee (f := 6) rfl ?_); refine gl_ 16 Tryd.func6 #[.slice A0 l0.length c0] (h := ?_); (with_reducible refine (laws_big.calls _ _ l0 false _ ?side1 ?side2 A4.out).mono ?_); (case side1 => exact sq_c (Kd.C_below HR0.out HB.out)); (case side2 => exact HC0.out); rintro e w' ⟨rfl, ⟨nd, rfl⟩⟩; refine ⟨_, rfl, ?_⟩) | (go_at_call 6; (with_reducible refine (laws_big.calls _ _ l1 t540 _ ?side1 ?side2 A6.out).mono ?_); (case side1 => exact sq_c (Kd.C_below HR1.out (sq_below HB.out))); (case side2 => exact HC1.out); rintro e w' ⟨rfl, ⟨nd, rfl⟩⟩))
    go_meet
    case rel => exact ⟨_, (t540), (by first | rfl | (simp; done) | (simp [*]; done)), H', ⟨by first | omega | exact Nat.le_refl _⟩, ⟨by repeat (first | (with_reducible first | exact HB.out | apply below_alloc | apply pw_below_drewN | apply below_drew1) | exact HB.out)⟩⟩
 case rest =>
  clear HC3
  try clear c1
  try clear p2
  try clear c4
  try clear c5
  try clear c6
  obtain ⟨kq, x20_2, rfl, HA, HJ2, HB⟩ := hcut; cases kq with
  | zero => exact absurd HA.out (by simp [laws_FnRangeOrder.j0])
  | succ kj2 =>
   have H := HA.out; clear HA; simp only [laws_FnRangeOrder.j0] at H
   by_cases c7 : x20_2 = true
   ·
    subst c7; have H1 : (some true) = some r := by rw [if_pos rfl] at H; exact H
    clear H; have H := H1; clear H1
    as_aux_lemma =>
     obtain rfl := Option.some.inj H
     go_wp2
     go_ret
     exact ⟨by first | rfl | (simp [errW_none, errW_some] <;> rfl) | (simp [*, errW_none, errW_some] <;> rfl), by repeat (first | (with_reducible first | exact HB.out | apply below_alloc | apply pw_below_drewN | apply below_drew1) | exact HB.out)⟩
   ·
    replace c7 := Bool.eq_false_iff.mpr c7; subst c7; have H1 : ((spec_DrawRangeJoin.f l0).bind fun bt541 => ((spec_DrawRangeWiden.f kj2 l1).bind fun bt547 => ((impl_RangeJoin.f kj2 bt541.1 bt541.2.1 bt541.2.2.1 bt541.2.2.2).bind fun bt556 => ((impl_RangeMeet.f kj2 bt541.1 bt541.2.1 bt541.2.2.1 bt541.2.2.2).bind fun bt559 => ((impl_RangeWiden.f kj2 bt541.1 bt541.2.1 bt541.2.2.1 bt541.2.2.2 bt547.2.2.2.2).bind fun bt562 => ((spec_RangeJoin.f kj2 bt541.1 bt541.2.1 bt541.2.2.1 bt541.2.2.2).bind fun bt565 => (if (!(bt556.1 == bt565.1) || (!(bt556.2 == bt565.2))) = true then (laws_FnRangeOrder.j1 kj2 true bt541.1 bt541.2.1 bt541.2.2.1 bt541.2.2.2 bt547.1 bt547.2.1 bt556.1 bt556.2 bt559.1 bt559.2 bt562.1 bt562.2) else ((spec_RangeMeet.f bt541.1 bt541.2.1 bt541.2.2.1 bt541.2.2.2).bind fun bt567 => (if (!(bt559.1 == bt567.1) || (!(bt559.2 == bt567.2))) = true then (laws_FnRangeOrder.j1 kj2 true bt541.1 bt541.2.1 bt541.2.2.1 bt541.2.2.2 bt547.1 bt547.2.1 bt556.1 bt556.2 bt559.1 bt559.2 bt562.1 bt562.2) else ((spec_RangeWiden.f kj2 bt541.1 bt541.2.1 bt541.2.2.1 bt541.2.2.2 bt547.2.2.2.2).bind fun bt569 => (laws_FnRangeOrder.j1 kj2 (!(bt562.1 == bt569.1) || (!(bt562.2 == bt569.2))) bt541.1 bt541.2.1 bt541.2.2.1 bt541.2.2.2 bt547.1 bt547.2.1 bt556.1 bt556.2 bt559.1 bt559.2 bt562.1 bt562.2))))))))))) = some r := by rw [if_neg (show ¬ (false = true) by decide)] at H; exact H
    clear H; have H := H1; clear H1; replace H := Option.bind_eq_some_iff.mp H; obtain ⟨⟨t541, t542, t543, t544⟩, A80, H⟩ := H; (try dsimp only at H); have A8 := Aside0.mk A80; clear A80; replace H := Option.bind_eq_some_iff.mp H; obtain ⟨⟨t547, t548, t549, t550, t551⟩, A90, H⟩ := H; (try dsimp only at H); have A9 := Aside0.mk A90; clear A90; replace H := Option.bind_eq_some_iff.mp H; obtain ⟨⟨t556, t557⟩, A100, H⟩ := H; (try dsimp only at H); have A10 := Aside0.mk A100; clear A100; replace H := Option.bind_eq_some_iff.mp H; obtain ⟨⟨t559, t560⟩, A110, H⟩ := H; (try dsimp only at H); have A11 := Aside0.mk A110; clear A110; replace H := Option.bind_eq_some_iff.mp H; obtain ⟨⟨t562, t563⟩, A120, H⟩ := H; (try dsimp only at H); have A12 := Aside0.mk A120; clear A120; have HC13 := Aside0.mk H; clear H
    go_upto_region 8 with (first | ((with_reducible refine gate_callee (f := 20) rfl ?_); refine gl_ 23 Tryd.func20 #[.slice A0 l0.length c0] (h := ?_); (with_reducible refine (spec_DrawRangeJoin.calls _ _ l0 t541 t542 t543 t544 _ ?side1 ?side2 A8.out).mono ?_); (case side1 => exact sq_c (Kd.C_below HR0.out HB.out)); (case side2 => exact HC0.out); rintro e w14 ⟨rfl, hb⟩; refine ⟨_, rfl, ?_⟩; replace HB := hb_ HB hb; (try clear hb); (try clear hb2); (try clear hk); (try clear hi)) | ((with_reducible refine gate_dst (N := 5) rfl ?_); refine box_event ?hg (N := 5) ?hd (cs := #[.int .i64 0, .int .i64 0]) (t := 25) ?hr ?_; (case hd => rfl); (case hg => rfl); (case hr => first | (go_simp; done) | (go_simp; rfl)); intro gb545 hg w15 hbox hb; have n0_ := Aside0.mk (below_step (sq_below HB.out) hb); have n1_ := Aside0.mk (hbox); have n2_ := Aside0.mk ((by rw [hg]; exact (below_size (sq_below HB.out)) : w.heap.size ≤ gb545)); have n3_ := Aside0.mk ((by rw [hg]; exact (below_size (sq_below HB.out)) : w.heap.size ≤ gb545)); clear HB; have HB := n0_; have BK545 := n1_; have GW545 := n2_; have GE545 := n3_; clear n0_ n1_ n2_ n3_; clear hb hbox hg) | ((with_reducible refine gate_dst (N := 6) rfl ?_); refine box_event ?hg (N := 6) ?hd (cs := #[.int .i64 0, .int .i64 0]) (t := 25) ?hr ?_; (case hd => rfl); (case hg => rfl); (case hr => first | (go_simp; done) | (go_simp; rfl)); intro gb546 hg w16 hbox hb; have n0_ := Aside0.mk (blk_below (sq_blk BK545.out) hb); have n1_ := Aside0.mk (below_step (sq_below1 HB.out GE545.out) hb); have n2_ := Aside0.mk (hbox); have n3_ := Aside0.mk ((by rw [hg]; exact (below_size (sq_below1 HB.out GE545.out)) : w.heap.size ≤ gb546)); have n4_ := Aside0.mk ((by rw [hg]; exact (below_size (sq_below1 HB.out GE545.out)) : w.heap.size ≤ gb546)); have n5_ := Aside0.mk ((by rw [hg]; exact Nat.ne_of_lt (blk_lt (g := gb545) (o := .cells #[.int .i64 0, .int .i64 0] 25 (0, 0)) (sq_blk BK545.out)) : gb545 ≠ gb546)); have n6_ := Aside0.mk (Ne.symm n5_.out); clear BK545; clear HB; have BK545 := n0_; have HB := n1_; have BK546 := n2_; have GW546 := n3_; have GE546 := n4_; have NB545_546 := n5_; have NB546_545 := n6_; clear n0_ n1_ n2_ n3_ n4_ n5_ n6_; clear hb hbox hg; have hnb17 := NB545_546.out; have hnc17 := NB546_545.out; have hcz18_0 := cl_ (v := .int .i64 0) BK545 0; have hcz18_1 := cl_ (v := .int .i64 0) BK545 1; have hfz18_0 := blk_frozen BK545.out 0; have hfz18_1 := blk_frozen BK545.out 1; have hcz19_0 := cl_ (v := .int .i64 0) BK546 0; have hcz19_1 := cl_ (v := .int .i64 0) BK546 1; have hfz19_0 := blk_frozen BK546.out 0; have hfz19_1 := blk_frozen BK546.out 1) | ((with_reducible refine gate_callee (f := 21) rfl ?_); refine gl_ 28 Tryd.func21 #[.slice A1 l1.length c1] (h := ?_); (with_reducible refine (spec_DrawRangeWiden.calls kj2 _ _ l1 t547 t548 t549 t550 t551 _ ?side1 ?side2 A9.out).mono ?_); (case side1 => exact Kd.C_below HR1.out (sq_below2 HB.out GE545.out GE546.out)); (case side2 => exact HC1.out); rintro e w20 ⟨v552, rfl, ho0, hb⟩; refine ⟨_, rfl, ?_⟩; have n0_ := Aside0.mk (Kd.R_lower ho0 (below_size (sq_below2 HB.out GE545.out GE546.out))); have n1_ := Aside0.mk (blk_below (g := gb545) (o := .cells #[.int .i64 t541, .int .i64 t542] 25 (0, 0)) (by (with_reducible repeat (first | refine blk_drewN ?_ _ | refine blk_drew ?_ | refine blk_alloc ?_ _)); refine blk_far ?_ NB545_546.out _; (with_reducible repeat (first | refine blk_drewN ?_ _ | refine blk_drew ?_ | refine blk_alloc ?_ _)); refine blk_far ?_ NB545_546.out _; (with_reducible repeat (first | refine blk_drewN ?_ _ | refine blk_drew ?_ | refine blk_alloc ?_ _)); refine blk_put (cs := #[.int .i64 t541, .int .i64 0]) ?_ 1 _ rfl; (with_reducible repeat (first | refine blk_drewN ?_ _ | refine blk_drew ?_ | refine blk_alloc ?_ _)); refine blk_put (cs := #[.int .i64 0, .int .i64 0]) ?_ 0 _ rfl; (with_reducible repeat (first | refine blk_drewN ?_ _ | refine blk_drew ?_ | refine blk_alloc ?_ _)); exact BK545.out) hb); have n2_ := Aside0.mk (blk_below (g := gb546) (o := .cells #[.int .i64 t543, .int .i64 t544] 25 (0, 0)) (by (with_reducible repeat (first | refine blk_drewN ?_ _ | refine blk_drew ?_ | refine blk_alloc ?_ _)); refine blk_put (cs := #[.int .i64 t543, .int .i64 0]) ?_ 1 _ rfl; (with_reducible repeat (first | refine blk_drewN ?_ _ | refine blk_drew ?_ | refine blk_alloc ?_ _)); refine blk_put (cs := #[.int .i64 0, .int .i64 0]) ?_ 0 _ rfl; (with_reducible repeat (first | refine blk_drewN ?_ _ | refine blk_drew ?_ | refine blk_alloc ?_ _)); refine blk_far ?_ NB546_545.out _; (with_reducible repeat (first | refine blk_drewN ?_ _ | refine blk_drew ?_ | refine blk_alloc ?_ _)); refine blk_far ?_ NB546_545.out _; (with_reducible repeat (first | refine blk_drewN ?_ _ | refine blk_drew ?_ | refine blk_alloc ?_ _)); exact BK546.out) hb); have n3_ := Aside0.mk (below_step (sq_below2 HB.out GE545.out GE546.out) hb); clear BK545; clear BK546; clear HB; have HO553 := n0_; have BK545 := n1_; have BK546 := n2_; have HB := n3_; clear n0_ n1_ n2_ n3_; (try clear hb); (try clear hb2); (try clear hk); (try clear hi); (try clear ho0)) | ((with_reducible refine gate_dst (N := 7) rfl ?_); refine box_event ?hg (N := 7) ?hd (cs := #[.int .i64 0, .int .i64 0]) (t := 25) ?hr ?_; (case hd => rfl); (case hg => rfl); (case hr => first | (go_simp; done) | (go_simp; rfl)); intro gb554 hg w21 hbox hb; have n0_ := Aside0.mk (Kd.R_below (sq_row HO553.out) hb); have n1_ := Aside0.mk (blk_below (sq_blk BK545.out) hb); have n2_ := Aside0.mk (blk_below (sq_blk BK546.out) hb); have n3_ := Aside0.mk (below_step (sq_below2 HB.out GE545.out GE546.out) hb); have n4_ := Aside0.mk (hbox); have n5_ := Aside0.mk ((by rw [hg]; exact (below_size (sq_below2 HB.out GE545.out GE546.out)) : w.heap.size ≤ gb554)); have n6_ := Aside0.mk ((by rw [hg]; exact (below_size (sq_below2 HB.out GE545.out GE546.out)) : w.heap.size ≤ gb554)); have n7_ := Aside0.mk ((by rw [hg]; exact Nat.ne_of_lt (blk_lt (g := gb545) (o := .cells #[.int .i64 t541, .int .i64 t542] 25 (0, 0)) (sq_blk BK545.out)) : gb545 ≠ gb554)); have n8_ := Aside0.mk (Ne.symm n7_.out); have n9_ := Aside0.mk ((by rw [hg]; exact Nat.ne_of_lt (blk_lt (g := gb546) (o := .cells #[.int .i64 t543, .int .i64 t544] 25 (0, 0)) (sq_blk BK546.out)) : gb546 ≠ gb554)); have n10_ := Aside0.mk (Ne.symm n9_.out); clear HO553; clear BK545; clear BK546; clear HB; have HO553 := n0_; have BK545 := n1_; have BK546 := n2_; have HB := n3_; have BK554 := n4_; have GW554 := n5_; have GE554 := n6_; have NB545_554 := n7_; have NB554_545 := n8_; have NB546_554 := n9_; have NB554_546 := n10_; clear n0_ n1_ n2_ n3_ n4_ n5_ n6_ n7_ n8_ n9_ n10_; clear hb hbox hg) | ((with_reducible refine gate_dst (N := 8) rfl ?_); refine box_event ?hg (N := 8) ?hd (cs := #[.int .i64 0, .int .i64 0]) (t := 25) ?hr ?_; (case hd => rfl); (case hg => rfl); (case hr => first | (go_simp; done) | (go_simp; rfl)); intro gb555 hg w22 hbox hb; have n0_ := Aside0.mk (Kd.R_below (sq_row HO553.out) hb); have n1_ := Aside0.mk (blk_below (sq_blk BK545.out) hb); have n2_ := Aside0.mk (blk_below (sq_blk BK546.out) hb); have n3_ := Aside0.mk (blk_below (sq_blk BK554.out) hb); have n4_ := Aside0.mk (below_step (sq_below3 HB.out GE545.out GE546.out GE554.out) hb); have n5_ := Aside0.mk (hbox); have n6_ := Aside0.mk ((by rw [hg]; exact (below_size (sq_below3 HB.out GE545.out GE546.out GE554.out)) : w.heap.size ≤ gb555)); have n7_ := Aside0.mk ((by rw [hg]; exact (below_size (sq_below3 HB.out GE545.out GE546.out GE554.out)) : w.heap.size ≤ gb555)); have n8_ := Aside0.mk ((by rw [hg]; exact Nat.ne_of_lt (blk_lt (g := gb545) (o := .cells #[.int .i64 t541, .int .i64 t542] 25 (0, 0)) (sq_blk BK545.out)) : gb545 ≠ gb555)); have n9_ := Aside0.mk (Ne.symm n8_.out); have n10_ := Aside0.mk ((by rw [hg]; exact Nat.ne_of_lt (blk_lt (g := gb546) (o := .cells #[.int .i64 t543, .int .i64 t544] 25 (0, 0)) (sq_blk BK546.out)) : gb546 ≠ gb555)); have n11_ := Aside0.mk (Ne.symm n10_.out); have n12_ := Aside0.mk ((by rw [hg]; exact Nat.ne_of_lt (blk_lt (g := gb554) (o := .cells #[.int .i64 0, .int .i64 0] 25 (0, 0)) (sq_blk BK554.out)) : gb554 ≠ gb555)); have n13_ := Aside0.mk (Ne.symm n12_.out); clear HO553; clear BK545; clear BK546; clear BK554; clear HB; have HO553 := n0_; have BK545 := n1_; have BK546 := n2_; have BK554 := n3_; have HB := n4_; have BK555 := n5_; have GW555 := n6_; have GE555 := n7_; have NB545_555 := n8_; have NB555_545 := n9_; have NB546_555 := n10_; have NB555_546 := n11_; have NB554_555 := n12_; have NB555_554 := n13_; clear n0_ n1_ n2_ n3_ n4_ n5_ n6_ n7_ n8_ n9_ n10_ n11_ n12_ n13_; clear hb hbox hg; have hnb23 := NB554_545.out; have hnc23 := NB545_554.out; have hnb24 := NB554_546.out; have hnc24 := NB546_554.out; have hnb25 := NB554_555.out; have hnc25 := NB555_554.out; have hcz26_0 := cl_ (v := .int .i64 0) BK554 0; have hcz26_1 := cl_ (v := .int .i64 0) BK554 1; have hfz26_0 := blk_frozen BK554.out 0; have hfz26_1 := blk_frozen BK554.out 1; have hnb27 := NB555_545.out; have hnc27 := NB545_555.out; have hnb28 := NB555_546.out; have hnc28 := NB546_555.out; have hcz29_0 := cl_ (v := .int .i64 0) BK555 0; have hcz29_1 := cl_ (v := .int .i64 0) BK555 1; have hfz29_0 := blk_frozen BK555.out 0; have hfz29_1 := blk_frozen BK555.out 1; have hcz30_0 := cl_ (v := .int .i64 t541) BK545 0; have hcz30_1 := cl_ (v := .int .i64 t542) BK545 1; have hfz30_0 := blk_frozen BK545.out 0; have hfz30_1 := blk_frozen BK545.out 1; have hcz31_0 := cl_ (v := .int .i64 t543) BK546 0; have hcz31_1 := cl_ (v := .int .i64 t544) BK546 1; have hfz31_0 := blk_frozen BK546.out 0; have hfz31_1 := blk_frozen BK546.out 1) | ((with_reducible refine gate_callee (f := 22) rfl ?_); refine gl_ 34 Tryd.func22 #[.agg #[.int .i64 t541, .int .i64 t542], .agg #[.int .i64 t543, .int .i64 t544]] (h := ?_); (with_reducible refine (impl_RangeJoin.calls kj2 t541 t542 t543 t544 t556 t557 _ ?side1 A10.out).mono ?_); (case side1 => exact GL0.below HG0.out (sq_below4 HB.out GE545.out GE546.out GE554.out GE555.out)); rintro e w32 ⟨rfl, hb⟩; refine ⟨_, rfl, ?_⟩; replace HO553 := Aside0.mk (Kd.R_below (by (with_reducible repeat (first | apply Kd.R_alloc | apply Kd.R_drewN | apply Kd.R_drew)); exact (Kd.R_mono (Kd.R_mono (Kd.R_far (p := ⟨gb555, 1, none⟩) (Kd.R_far (p := ⟨gb555, 0, none⟩) (Kd.R_far (p := ⟨gb554, 1, none⟩) (Kd.R_far (p := ⟨gb554, 0, none⟩) (Kd.R_types (Kd.R_types HO553.out BK554.out (by decide)) BK555.out (by decide)) (fun _ hk => hk.1.2) (.int .i64 t547)) (fun _ hk => hk.1.2) (.int .i64 t548)) (fun _ hk => hk.2) (.int .i64 t549)) (fun _ hk => hk.2) (.int .i64 t550)) (fun _ h_ => h_.1)) (fun _ h_ => h_.1))) hb); replace BK545 := Aside0.mk (blk_below (g := gb545) (o := .cells #[.int .i64 t541, .int .i64 t542] 25 (0, 0)) (by (with_reducible repeat (first | refine blk_drewN ?_ _ | refine blk_drew ?_ | refine blk_alloc ?_ _)); refine blk_far ?_ NB545_555.out _; (with_reducible repeat (first | refine blk_drewN ?_ _ | refine blk_drew ?_ | refine blk_alloc ?_ _)); refine blk_far ?_ NB545_555.out _; (with_reducible repeat (first | refine blk_drewN ?_ _ | refine blk_drew ?_ | refine blk_alloc ?_ _)); refine blk_far ?_ NB545_554.out _; (with_reducible repeat (first | refine blk_drewN ?_ _ | refine blk_drew ?_ | refine blk_alloc ?_ _)); refine blk_far ?_ NB545_554.out _; (with_reducible repeat (first | refine blk_drewN ?_ _ | refine blk_drew ?_ | refine blk_alloc ?_ _)); exact BK545.out) hb); replace BK546 := Aside0.mk (blk_below (g := gb546) (o := .cells #[.int .i64 t543, .int .i64 t544] 25 (0, 0)) (by (with_reducible repeat (first | refine blk_drewN ?_ _ | refine blk_drew ?_ | refine blk_alloc ?_ _)); refine blk_far ?_ NB546_555.out _; (with_reducible repeat (first | refine blk_drewN ?_ _ | refine blk_drew ?_ | refine blk_alloc ?_ _)); refine blk_far ?_ NB546_555.out _; (with_reducible repeat (first | refine blk_drewN ?_ _ | refine blk_drew ?_ | refine blk_alloc ?_ _)); refine blk_far ?_ NB546_554.out _; (with_reducible repeat (first | refine blk_drewN ?_ _ | refine blk_drew ?_ | refine blk_alloc ?_ _)); refine blk_far ?_ NB546_554.out _; (with_reducible repeat (first | refine blk_drewN ?_ _ | refine blk_drew ?_ | refine blk_alloc ?_ _)); exact BK546.out) hb); replace BK554 := Aside0.mk (blk_below (g := gb554) (o := .cells #[.int .i64 t547, .int .i64 t548] 25 (0, 0)) (by (with_reducible repeat (first | refine blk_drewN ?_ _ | refine blk_drew ?_ | refine blk_alloc ?_ _)); refine blk_far ?_ NB554_555.out _; (with_reducible repeat (first | refine blk_drewN ?_ _ | refine blk_drew ?_ | refine blk_alloc ?_ _)); refine blk_far ?_ NB554_555.out _; (with_reducible repeat (first | refine blk_drewN ?_ _ | refine blk_drew ?_ | refine blk_alloc ?_ _)); refine blk_put (cs := #[.int .i64 t547, .int .i64 0]) ?_ 1 _ rfl; (with_reducible repeat (first | refine blk_drewN ?_ _ | refine blk_drew ?_ | refine blk_alloc ?_ _)); refine blk_put (cs := #[.int .i64 0, .int .i64 0]) ?_ 0 _ rfl; (with_reducible repeat (first | refine blk_drewN ?_ _ | refine blk_drew ?_ | refine blk_alloc ?_ _)); exact BK554.out) hb); replace BK555 := Aside0.mk (blk_below (g := gb555) (o := .cells #[.int .i64 t549, .int .i64 t550] 25 (0, 0)) (by (with_reducible repeat (first | refine blk_drewN ?_ _ | refine blk_drew ?_ | refine blk_alloc ?_ _)); refine blk_put (cs := #[.int .i64 t549, .int .i64 0]) ?_ 1 _ rfl; (with_reducible repeat (first | refine blk_drewN ?_ _ | refine blk_drew ?_ | refine blk_alloc ?_ _)); refine blk_put (cs := #[.int .i64 0, .int .i64 0]) ?_ 0 _ rfl; (with_reducible repeat (first | refine blk_drewN ?_ _ | refine blk_drew ?_ | refine blk_alloc ?_ _)); refine blk_far ?_ NB555_554.out _; (with_reducible repeat (first | refine blk_drewN ?_ _ | refine blk_drew ?_ | refine blk_alloc ?_ _)); refine blk_far ?_ NB555_554.out _; (with_reducible repeat (first | refine blk_drewN ?_ _ | refine blk_drew ?_ | refine blk_alloc ?_ _)); exact BK555.out) hb); replace HB := hb4_ HB hb GE545 GE546 GE554 GE555; (try clear hb); (try clear hb2); (try clear hk); (try clear hi)) | ((with_reducible refine gate_dst (N := 10) rfl ?_); refine box_event ?hg (N := 10) ?hd (cs := #[.int .i64 0, .int .i64 0]) (t := 25) ?hr ?_; (case hd => rfl); (case hg => rfl); (case hr => first | (go_simp; done) | (go_simp; rfl)); intro gb558 hg w33 hbox hb; have n0_ := Aside0.mk (Kd.R_below (sq_row HO553.out) hb); have n1_ := Aside0.mk (blk_below (sq_blk BK545.out) hb); have n2_ := Aside0.mk (blk_below (sq_blk BK546.out) hb); have n3_ := Aside0.mk (blk_below (sq_blk BK554.out) hb); have n4_ := Aside0.mk (blk_below (sq_blk BK555.out) hb); have n5_ := Aside0.mk (below_step (sq_below4 HB.out GE545.out GE546.out GE554.out GE555.out) hb); have n6_ := Aside0.mk (hbox); have n7_ := Aside0.mk ((by rw [hg]; exact (below_size (sq_below4 HB.out GE545.out GE546.out GE554.out GE555.out)) : w.heap.size ≤ gb558)); have n8_ := Aside0.mk ((by rw [hg]; exact (below_size (sq_below4 HB.out GE545.out GE546.out GE554.out GE555.out)) : w.heap.size ≤ gb558)); have n9_ := Aside0.mk ((by rw [hg]; exact Nat.ne_of_lt (blk_lt (g := gb545) (o := .cells #[.int .i64 t541, .int .i64 t542] 25 (0, 0)) (sq_blk BK545.out)) : gb545 ≠ gb558)); have n10_ := Aside0.mk (Ne.symm n9_.out); have n11_ := Aside0.mk ((by rw [hg]; exact Nat.ne_of_lt (blk_lt (g := gb546) (o := .cells #[.int .i64 t543, .int .i64 t544] 25 (0, 0)) (sq_blk BK546.out)) : gb546 ≠ gb558)); have n12_ := Aside0.mk (Ne.symm n11_.out); have n13_ := Aside0.mk ((by rw [hg]; exact Nat.ne_of_lt (blk_lt (g := gb554) (o := .cells #[.int .i64 t547, .int .i64 t548] 25 (0, 0)) (sq_blk BK554.out)) : gb554 ≠ gb558)); have n14_ := Aside0.mk (Ne.symm n13_.out); have n15_ := Aside0.mk ((by rw [hg]; exact Nat.ne_of_lt (blk_lt (g := gb555) (o := .cells #[.int .i64 t549, .int .i64 t550] 25 (0, 0)) (sq_blk BK555.out)) : gb555 ≠ gb558)); have n16_ := Aside0.mk (Ne.symm n15_.out); clear HO553; clear BK545; clear BK546; clear BK554; clear BK555; clear HB; have HO553 := n0_; have BK545 := n1_; have BK546 := n2_; have BK554 := n3_; have BK555 := n4_; have HB := n5_; have BK558 := n6_; have GW558 := n7_; have GE558 := n8_; have NB545_558 := n9_; have NB558_545 := n10_; have NB546_558 := n11_; have NB558_546 := n12_; have NB554_558 := n13_; have NB558_554 := n14_; have NB555_558 := n15_; have NB558_555 := n16_; clear n0_ n1_ n2_ n3_ n4_ n5_ n6_ n7_ n8_ n9_ n10_ n11_ n12_ n13_ n14_ n15_ n16_; clear hb hbox hg; have hnb34 := NB558_545.out; have hnc34 := NB545_558.out; have hnb35 := NB558_546.out; have hnc35 := NB546_558.out; have hnb36 := NB558_554.out; have hnc36 := NB554_558.out; have hnb37 := NB558_555.out; have hnc37 := NB555_558.out; have hcz38_0 := cl_ (v := .int .i64 0) BK558 0; have hcz38_1 := cl_ (v := .int .i64 0) BK558 1; have hfz38_0 := blk_frozen BK558.out 0; have hfz38_1 := blk_frozen BK558.out 1; have hcz39_0 := cl_ (v := .int .i64 t541) BK545 0; have hcz39_1 := cl_ (v := .int .i64 t542) BK545 1; have hfz39_0 := blk_frozen BK545.out 0; have hfz39_1 := blk_frozen BK545.out 1; have hcz40_0 := cl_ (v := .int .i64 t543) BK546 0; have hcz40_1 := cl_ (v := .int .i64 t544) BK546 1; have hfz40_0 := blk_frozen BK546.out 0; have hfz40_1 := blk_frozen BK546.out 1) | ((with_reducible refine gate_callee (f := 23) rfl ?_); refine gl_ 37 Tryd.func23 #[.agg #[.int .i64 t541, .int .i64 t542], .agg #[.int .i64 t543, .int .i64 t544]] (h := ?_); (with_reducible refine (impl_RangeMeet.calls kj2 t541 t542 t543 t544 t559 t560 _ ?side1 A11.out).mono ?_); (case side1 => exact GL0.below HG0.out (sq_below5 HB.out GE545.out GE546.out GE554.out GE555.out GE558.out)); rintro e w41 ⟨rfl, hb⟩; refine ⟨_, rfl, ?_⟩; replace HO553 := Aside0.mk (Kd.R_below (by (with_reducible repeat (first | apply Kd.R_alloc | apply Kd.R_drewN | apply Kd.R_drew)); exact (Kd.R_mono (Kd.R_far (p := ⟨gb558, 1, none⟩) (Kd.R_far (p := ⟨gb558, 0, none⟩) (Kd.R_types HO553.out BK558.out (by decide)) (fun _ hk => hk.2) (.int .i64 t556)) (fun _ hk => hk.2) (.int .i64 t557)) (fun _ h_ => h_.1))) hb); replace BK545 := Aside0.mk (blk_below (g := gb545) (o := .cells #[.int .i64 t541, .int .i64 t542] 25 (0, 0)) (bf_ BK545 NB545_558).out hb); replace BK546 := Aside0.mk (blk_below (g := gb546) (o := .cells #[.int .i64 t543, .int .i64 t544] 25 (0, 0)) (bf_ BK546 NB546_558).out hb); replace BK554 := Aside0.mk (blk_below (g := gb554) (o := .cells #[.int .i64 t547, .int .i64 t548] 25 (0, 0)) (bf_ BK554 NB554_558).out hb); replace BK555 := Aside0.mk (blk_below (g := gb555) (o := .cells #[.int .i64 t549, .int .i64 t550] 25 (0, 0)) (bf_ BK555 NB555_558).out hb); replace BK558 := Aside0.mk (blk_below (g := gb558) (o := .cells #[.int .i64 t556, .int .i64 t557] 25 (0, 0)) (by (with_reducible repeat (first | refine blk_drewN ?_ _ | refine blk_drew ?_ | refine blk_alloc ?_ _)); refine blk_put (cs := #[.int .i64 t556, .int .i64 0]) ?_ 1 _ rfl; (with_reducible repeat (first | refine blk_drewN ?_ _ | refine blk_drew ?_ | refine blk_alloc ?_ _)); refine blk_put (cs := #[.int .i64 0, .int .i64 0]) ?_ 0 _ rfl; (with_reducible repeat (first | refine blk_drewN ?_ _ | refine blk_drew ?_ | refine blk_alloc ?_ _)); exact BK558.out) hb); replace HB := hb5_ HB hb GE545 GE546 GE554 GE555 GE558; (try clear hb); (try clear hb2); (try clear hk); (try clear hi)) | ((with_reducible refine gate_dst (N := 11) rfl ?_); refine box_event ?hg (N := 11) ?hd (cs := #[.int .i64 0, .int .i64 0]) (t := 25) ?hr ?_; (case hd => rfl); (case hg => rfl); (case hr => first | (go_simp; done) | (go_simp; rfl)); intro gb561 hg w42 hbox hb; have n0_ := Aside0.mk (Kd.R_below (sq_row HO553.out) hb); have n1_ := Aside0.mk (blk_below (sq_blk BK545.out) hb); have n2_ := Aside0.mk (blk_below (sq_blk BK546.out) hb); have n3_ := Aside0.mk (blk_below (sq_blk BK554.out) hb); have n4_ := Aside0.mk (blk_below (sq_blk BK555.out) hb); have n5_ := Aside0.mk (blk_below (sq_blk BK558.out) hb); have n6_ := Aside0.mk (below_step (sq_below5 HB.out GE545.out GE546.out GE554.out GE555.out GE558.out) hb); have n7_ := Aside0.mk (hbox); have n8_ := Aside0.mk ((by rw [hg]; exact (below_size (sq_below5 HB.out GE545.out GE546.out GE554.out GE555.out GE558.out)) : w.heap.size ≤ gb561)); have n9_ := Aside0.mk ((by rw [hg]; exact (below_size (sq_below5 HB.out GE545.out GE546.out GE554.out GE555.out GE558.out)) : w.heap.size ≤ gb561)); have n10_ := Aside0.mk ((by rw [hg]; exact Nat.ne_of_lt (blk_lt (g := gb545) (o := .cells #[.int .i64 t541, .int .i64 t542] 25 (0, 0)) (sq_blk BK545.out)) : gb545 ≠ gb561)); have n11_ := Aside0.mk (Ne.symm n10_.out); have n12_ := Aside0.mk ((by rw [hg]; exact Nat.ne_of_lt (blk_lt (g := gb546) (o := .cells #[.int .i64 t543, .int .i64 t544] 25 (0, 0)) (sq_blk BK546.out)) : gb546 ≠ gb561)); have n13_ := Aside0.mk (Ne.symm n12_.out); have n14_ := Aside0.mk ((by rw [hg]; exact Nat.ne_of_lt (blk_lt (g := gb554) (o := .cells #[.int .i64 t547, .int .i64 t548] 25 (0, 0)) (sq_blk BK554.out)) : gb554 ≠ gb561)); have n15_ := Aside0.mk (Ne.symm n14_.out); have n16_ := Aside0.mk ((by rw [hg]; exact Nat.ne_of_lt (blk_lt (g := gb555) (o := .cells #[.int .i64 t549, .int .i64 t550] 25 (0, 0)) (sq_blk BK555.out)) : gb555 ≠ gb561)); have n17_ := Aside0.mk (Ne.symm n16_.out); have n18_ := Aside0.mk ((by rw [hg]; exact Nat.ne_of_lt (blk_lt (g := gb558) (o := .cells #[.int .i64 t556, .int .i64 t557] 25 (0, 0)) (sq_blk BK558.out)) : gb558 ≠ gb561)); have n19_ := Aside0.mk (Ne.symm n18_.out); clear HO553; clear BK545; clear BK546; clear BK554; clear BK555; clear BK558; clear HB; have HO553 := n0_; have BK545 := n1_; have BK546 := n2_; have BK554 := n3_; have BK555 := n4_; have BK558 := n5_; have HB := n6_; have BK561 := n7_; have GW561 := n8_; have GE561 := n9_; have NB545_561 := n10_; have NB561_545 := n11_; have NB546_561 := n12_; have NB561_546 := n13_; have NB554_561 := n14_; have NB561_554 := n15_; have NB555_561 := n16_; have NB561_555 := n17_; have NB558_561 := n18_; have NB561_558 := n19_; clear n0_ n1_ n2_ n3_ n4_ n5_ n6_ n7_ n8_ n9_ n10_ n11_ n12_ n13_ n14_ n15_ n16_ n17_ n18_ n19_; clear hb hbox hg; have hnb43 := NB561_545.out; have hnc43 := NB545_561.out; have hnb44 := NB561_546.out; have hnc44 := NB546_561.out; have hnb45 := NB561_554.out; have hnc45 := NB554_561.out; have hnb46 := NB561_555.out; have hnc46 := NB555_561.out; have hnb47 := NB561_558.out; have hnc47 := NB558_561.out; have hcz48_0 := cl_ (v := .int .i64 0) BK561 0; have hcz48_1 := cl_ (v := .int .i64 0) BK561 1; have hfz48_0 := blk_frozen BK561.out 0; have hfz48_1 := blk_frozen BK561.out 1; have hcz49_0 := cl_ (v := .int .i64 t541) BK545 0; have hcz49_1 := cl_ (v := .int .i64 t542) BK545 1; have hfz49_0 := blk_frozen BK545.out 0; have hfz49_1 := blk_frozen BK545.out 1; have hcz50_0 := cl_ (v := .int .i64 t543) BK546 0; have hcz50_1 := cl_ (v := .int .i64 t544) BK546 1; have hfz50_0 := blk_frozen BK546.out 0; have hfz50_1 := blk_frozen BK546.out 1; obtain ⟨Ao51, co51, eo51⟩ := Kd.R_slice HO553.out; subst eo51) | ((with_reducible refine gate_callee (f := 24) rfl ?_); refine gl_ 41 Tryd.func24 #[.agg #[.int .i64 t541, .int .i64 t542], .agg #[.int .i64 t543, .int .i64 t544], .slice Ao51 t551.length co51] (h := ?_); (with_reducible refine (impl_RangeWiden.calls kj2 t541 t542 t543 t544 _ _ t551 t562 t563 _ ?side3 ?side1 ?side2 A12.out).mono ?_); (case side1 => refine (Kd.R_reads' (e := 3) (base := w.heap.size) (ok := fun k_ => True) (n := t551.length) (c := co51) ?_).2.2; exact (by (with_reducible repeat (first | apply Kd.R_alloc | apply Kd.R_drewN | apply Kd.R_drew)); exact (Kd.R_mono (Kd.R_far (p := ⟨gb561, 1, none⟩) (Kd.R_far (p := ⟨gb561, 0, none⟩) (Kd.R_types HO553.out BK561.out (by decide)) (fun _ hk => hk.2) (.int .i64 t559)) (fun _ hk => hk.2) (.int .i64 t560)) (fun _ h_ => h_.1)))); (case side2 => exact (Kd.R_reads' HO553.out).2.1); (case side3 => exact GL0.below HG0.out (sq_below6 HB.out GE545.out GE546.out GE554.out GE555.out GE558.out GE561.out)); rintro e w52 ⟨rfl, hb⟩; refine ⟨_, rfl, ?_⟩; replace HO553 := Aside0.mk (Kd.R_below (by (with_reducible repeat (first | apply Kd.R_alloc | apply Kd.R_drewN | apply Kd.R_drew)); exact (Kd.R_mono (Kd.R_far (p := ⟨gb561, 1, none⟩) (Kd.R_far (p := ⟨gb561, 0, none⟩) (Kd.R_types HO553.out BK561.out (by decide)) (fun _ hk => hk.2) (.int .i64 t559)) (fun _ hk => hk.2) (.int .i64 t560)) (fun _ h_ => h_.1))) hb); replace BK545 := Aside0.mk (blk_below (g := gb545) (o := .cells #[.int .i64 t541, .int .i64 t542] 25 (0, 0)) (bf_ BK545 NB545_561).out hb); replace BK546 := Aside0.mk (blk_below (g := gb546) (o := .cells #[.int .i64 t543, .int .i64 t544] 25 (0, 0)) (bf_ BK546 NB546_561).out hb); replace BK554 := Aside0.mk (blk_below (g := gb554) (o := .cells #[.int .i64 t547, .int .i64 t548] 25 (0, 0)) (bf_ BK554 NB554_561).out hb); replace BK555 := Aside0.mk (blk_below (g := gb555) (o := .cells #[.int .i64 t549, .int .i64 t550] 25 (0, 0)) (bf_ BK555 NB555_561).out hb); replace BK558 := Aside0.mk (blk_below (g := gb558) (o := .cells #[.int .i64 t556, .int .i64 t557] 25 (0, 0)) (bf_ BK558 NB558_561).out hb); replace BK561 := Aside0.mk (blk_below (g := gb561) (o := .cells #[.int .i64 t559, .int .i64 t560] 25 (0, 0)) (by (with_reducible repeat (first | refine blk_drewN ?_ _ | refine blk_drew ?_ | refine blk_alloc ?_ _)); refine blk_put (cs := #[.int .i64 t559, .int .i64 0]) ?_ 1 _ rfl; (with_reducible repeat (first | refine blk_drewN ?_ _ | refine blk_drew ?_ | refine blk_alloc ?_ _)); refine blk_put (cs := #[.int .i64 0, .int .i64 0]) ?_ 0 _ rfl; (with_reducible repeat (first | refine blk_drewN ?_ _ | refine blk_drew ?_ | refine blk_alloc ?_ _)); exact BK561.out) hb); replace HB := hb6_ HB hb GE545 GE546 GE554 GE555 GE558 GE561; (try clear hb); (try clear hb2); (try clear hk); (try clear hi)) | ((with_reducible refine gate_dst (N := 12) rfl ?_); refine box_event ?hg (N := 12) ?hd (cs := #[.int .i64 0, .int .i64 0]) (t := 25) ?hr ?_; (case hd => rfl); (case hg => rfl); (case hr => first | (go_simp; done) | (go_simp; rfl)); intro gb564 hg w53 hbox hb; have n0_ := Aside0.mk (Kd.R_below (sq_row HO553.out) hb); have n1_ := Aside0.mk (blk_below (sq_blk BK545.out) hb); have n2_ := Aside0.mk (blk_below (sq_blk BK546.out) hb); have n3_ := Aside0.mk (blk_below (sq_blk BK554.out) hb); have n4_ := Aside0.mk (blk_below (sq_blk BK555.out) hb); have n5_ := Aside0.mk (blk_below (sq_blk BK558.out) hb); have n6_ := Aside0.mk (blk_below (sq_blk BK561.out) hb); have n7_ := Aside0.mk (below_step (sq_below6 HB.out GE545.out GE546.out GE554.out GE555.out GE558.out GE561.out) hb); have n8_ := Aside0.mk (hbox); have n9_ := Aside0.mk ((by rw [hg]; exact (below_size (sq_below6 HB.out GE545.out GE546.out GE554.out GE555.out GE558.out GE561.out)) : w.heap.size ≤ gb564)); have n10_ := Aside0.mk ((by rw [hg]; exact (below_size (sq_below6 HB.out GE545.out GE546.out GE554.out GE555.out GE558.out GE561.out)) : w.heap.size ≤ gb564)); have n11_ := Aside0.mk ((by rw [hg]; exact Nat.ne_of_lt (blk_lt (g := gb545) (o := .cells #[.int .i64 t541, .int .i64 t542] 25 (0, 0)) (sq_blk BK545.out)) : gb545 ≠ gb564)); have n12_ := Aside0.mk (Ne.symm n11_.out); have n13_ := Aside0.mk ((by rw [hg]; exact Nat.ne_of_lt (blk_lt (g := gb546) (o := .cells #[.int .i64 t543, .int .i64 t544] 25 (0, 0)) (sq_blk BK546.out)) : gb546 ≠ gb564)); have n14_ := Aside0.mk (Ne.symm n13_.out); have n15_ := Aside0.mk ((by rw [hg]; exact Nat.ne_of_lt (blk_lt (g := gb554) (o := .cells #[.int .i64 t547, .int .i64 t548] 25 (0, 0)) (sq_blk BK554.out)) : gb554 ≠ gb564)); have n16_ := Aside0.mk (Ne.symm n15_.out); have n17_ := Aside0.mk ((by rw [hg]; exact Nat.ne_of_lt (blk_lt (g := gb555) (o := .cells #[.int .i64 t549, .int .i64 t550] 25 (0, 0)) (sq_blk BK555.out)) : gb555 ≠ gb564)); have n18_ := Aside0.mk (Ne.symm n17_.out); have n19_ := Aside0.mk ((by rw [hg]; exact Nat.ne_of_lt (blk_lt (g := gb558) (o := .cells #[.int .i64 t556, .int .i64 t557] 25 (0, 0)) (sq_blk BK558.out)) : gb558 ≠ gb564)); have n20_ := Aside0.mk (Ne.symm n19_.out); have n21_ := Aside0.mk ((by rw [hg]; exact Nat.ne_of_lt (blk_lt (g := gb561) (o := .cells #[.int .i64 t559, .int .i64 t560] 25 (0, 0)) (sq_blk BK561.out)) : gb561 ≠ gb564)); have n22_ := Aside0.mk (Ne.symm n21_.out); clear HO553; clear BK545; clear BK546; clear BK554; clear BK555; clear BK558; clear BK561; clear HB; have HO553 := n0_; have BK545 := n1_; have BK546 := n2_; have BK554 := n3_; have BK555 := n4_; have BK558 := n5_; have BK561 := n6_; have HB := n7_; have BK564 := n8_; have GW564 := n9_; have GE564 := n10_; have NB545_564 := n11_; have NB564_545 := n12_; have NB546_564 := n13_; have NB564_546 := n14_; have NB554_564 := n15_; have NB564_554 := n16_; have NB555_564 := n17_; have NB564_555 := n18_; have NB558_564 := n19_; have NB564_558 := n20_; have NB561_564 := n21_; have NB564_561 := n22_; clear n0_ n1_ n2_ n3_ n4_ n5_ n6_ n7_ n8_ n9_ n10_ n11_ n12_ n13_ n14_ n15_ n16_ n17_ n18_ n19_ n20_ n21_ n22_; clear hb hbox hg; have hnb54 := NB564_545.out; have hnc54 := NB545_564.out; have hnb55 := NB564_546.out; have hnc55 := NB546_564.out; have hnb56 := NB564_554.out; have hnc56 := NB554_564.out; have hnb57 := NB564_555.out; have hnc57 := NB555_564.out; have hnb58 := NB564_558.out; have hnc58 := NB558_564.out; have hnb59 := NB564_561.out; have hnc59 := NB561_564.out; have hcz60_0 := cl_ (v := .int .i64 0) BK564 0; have hcz60_1 := cl_ (v := .int .i64 0) BK564 1; have hfz60_0 := blk_frozen BK564.out 0; have hfz60_1 := blk_frozen BK564.out 1))
    (try simp only [Act.put, List.setIfInBounds_toArray, List.set_cons_zero, List.set_cons_succ])
    go_cut [61] (fun v61 wc => ∃ (kq : Nat) (x61_12 : Bool), v61 = .bool x61_12 ∧ Aside0 (laws_FnRangeOrder.j1 kq x61_12 t541 t542 t543 t544 t547 t548 t556 t557 t559 t560 t562 t563 = some r) ∧ Aside0 (kq ≤ kj2) ∧ Aside0 (wc.heap[gb545]? = some (.cells #[.int .i64 t541, .int .i64 t542] 25 (0, 0))) ∧ Aside0 (wc.heap[gb546]? = some (.cells #[.int .i64 t543, .int .i64 t544] 25 (0, 0))) ∧ Aside0 (wc.heap[gb554]? = some (.cells #[.int .i64 t547, .int .i64 t548] 25 (0, 0))) ∧ Aside0 (wc.heap[gb555]? = some (.cells #[.int .i64 t549, .int .i64 t550] 25 (0, 0))) ∧ Aside0 (wc.heap[gb558]? = some (.cells #[.int .i64 t556, .int .i64 t557] 25 (0, 0))) ∧ Aside0 (wc.heap[gb561]? = some (.cells #[.int .i64 t559, .int .i64 t560] 25 (0, 0))) ∧ Aside0 (wc.heap[gb564]? = some (.cells #[.int .i64 t562, .int .i64 t563] 25 (0, 0))) ∧ Aside0 (Below w.heap.size w wc))
    case first =>
     have H := HC13.out; clear HC13; replace H := Option.bind_eq_some_iff.mp H; obtain ⟨⟨t565, t566⟩, A610, H⟩ := H; (try dsimp only at H); have A61 := Aside0.mk A610; clear A610
     by_cases c62 : (!(t556 == t565) || (!(t557 == t566))) = true
     ·
      rw [if_pos c62] at H; have c62b0 : (!(t556 == t565) || (!(t557 == t566))) = true := c62; clear c62
      (first | rw [c62b0] | (simp only [i64_w, i32_w]; rw [c62b0]) | skip)
      as_aux_lemma =>
       have H' := Aside0.mk H; clear H
       try go_wp2
       have n0_ : Aside0 (Kd.R (Kd.int .i64) 3 ((w53.setCell ⟨gb564, 0, none⟩ (.int .i64 t562)).setCell ⟨gb564, 1, none⟩ (.int .i64 t563)) w.heap.size (fun _ => True) (.slice Ao51 t551.length co51) t551) := ⟨by (with_reducible repeat (first | apply Kd.R_alloc | apply Kd.R_drewN | apply Kd.R_drew)); exact Kd.R_mono (Kd.R_far (p := ⟨gb564, 1, none⟩) (Kd.R_far (p := ⟨gb564, 0, none⟩) (Kd.R_types HO553.out BK564.out (by decide)) (fun _ hk => hk.2) (.int .i64 t562)) (fun _ hk => hk.2) (.int .i64 t563)) (fun _ hk => trivial)⟩; have n1_ : Aside0 (((w53.setCell ⟨gb564, 0, none⟩ (.int .i64 t562)).setCell ⟨gb564, 1, none⟩ (.int .i64 t563)).heap[gb545]? = some (.cells #[.int .i64 t541, .int .i64 t542] 25 (0, 0))) := bf_ BK545 NB545_564; have n2_ : Aside0 (((w53.setCell ⟨gb564, 0, none⟩ (.int .i64 t562)).setCell ⟨gb564, 1, none⟩ (.int .i64 t563)).heap[gb546]? = some (.cells #[.int .i64 t543, .int .i64 t544] 25 (0, 0))) := bf_ BK546 NB546_564; have n3_ : Aside0 (((w53.setCell ⟨gb564, 0, none⟩ (.int .i64 t562)).setCell ⟨gb564, 1, none⟩ (.int .i64 t563)).heap[gb554]? = some (.cells #[.int .i64 t547, .int .i64 t548] 25 (0, 0))) := bf_ BK554 NB554_564; have n4_ : Aside0 (((w53.setCell ⟨gb564, 0, none⟩ (.int .i64 t562)).setCell ⟨gb564, 1, none⟩ (.int .i64 t563)).heap[gb555]? = some (.cells #[.int .i64 t549, .int .i64 t550] 25 (0, 0))) := bf_ BK555 NB555_564; have n5_ : Aside0 (((w53.setCell ⟨gb564, 0, none⟩ (.int .i64 t562)).setCell ⟨gb564, 1, none⟩ (.int .i64 t563)).heap[gb558]? = some (.cells #[.int .i64 t556, .int .i64 t557] 25 (0, 0))) := bf_ BK558 NB558_564; have n6_ : Aside0 (((w53.setCell ⟨gb564, 0, none⟩ (.int .i64 t562)).setCell ⟨gb564, 1, none⟩ (.int .i64 t563)).heap[gb561]? = some (.cells #[.int .i64 t559, .int .i64 t560] 25 (0, 0))) := bf_ BK561 NB561_564; have n7_ : Aside0 (((w53.setCell ⟨gb564, 0, none⟩ (.int .i64 t562)).setCell ⟨gb564, 1, none⟩ (.int .i64 t563)).heap[gb564]? = some (.cells #[.int .i64 t562, .int .i64 t563] 25 (0, 0))) := ⟨by (with_reducible repeat (first | refine blk_drewN ?_ _ | refine blk_drew ?_ | refine blk_alloc ?_ _)); refine blk_put (cs := #[.int .i64 t562, .int .i64 0]) ?_ 1 _ rfl; (with_reducible repeat (first | refine blk_drewN ?_ _ | refine blk_drew ?_ | refine blk_alloc ?_ _)); refine blk_put (cs := #[.int .i64 0, .int .i64 0]) ?_ 0 _ rfl; (with_reducible repeat (first | refine blk_drewN ?_ _ | refine blk_drew ?_ | refine blk_alloc ?_ _)); exact BK564.out⟩; have n8_ : Aside0 (Below w.heap.size w ((w53.setCell ⟨gb564, 0, none⟩ (.int .i64 t562)).setCell ⟨gb564, 1, none⟩ (.int .i64 t563))) := ⟨by repeat (first | (with_reducible first | exact HB.out | apply below_alloc | apply pw_below_drewN | apply below_drew1 | refine below_set ?_ GE545.out | refine below_set ?_ GE546.out | refine below_set ?_ GE554.out | refine below_set ?_ GE555.out | refine below_set ?_ GE558.out | refine below_set ?_ GE561.out | refine below_set ?_ GE564.out) | exact HB.out)⟩
       (try clear HO553)
       (try clear BK545)
       (try clear BK546)
       (try clear BK554)
       (try clear BK555)
       (try clear BK558)
       (try clear BK561)
       (try clear BK564)
       (try clear HB)
       generalize ((w53.setCell ⟨gb564, 0, none⟩ (.int .i64 t562)).setCell ⟨gb564, 1, none⟩ (.int .i64 t563)) = w63 at n0_ n1_ n2_ n3_ n4_ n5_ n6_ n7_ n8_ ⊢; have HO553 := n0_; have BK545 := n1_; have BK546 := n2_; have BK554 := n3_; have BK555 := n4_; have BK558 := n5_; have BK561 := n6_; have BK564 := n7_; have HB := n8_; clear n0_ n1_ n2_ n3_ n4_ n5_ n6_ n7_ n8_; replace HO553 := Aside0.mk (Kd.R_drew HO553.out); replace BK545 := bd_ BK545; replace BK546 := bd_ BK546; replace BK554 := bd_ BK554; replace BK555 := bd_ BK555; replace BK558 := bd_ BK558; replace BK561 := bd_ BK561; replace BK564 := bd_ BK564; replace HB := hd_ HB; refine start_ (n := 20) (S := fun w' => w'.cell? ⟨gb558, 0, none⟩ = some (.int .i64 t556) ∧ w'.cell? ⟨gb558, 1, none⟩ = some (.int .i64 t557) ∧ w'.cell? ⟨gb545, 0, none⟩ = some (.int .i64 t541) ∧ w'.cell? ⟨gb545, 1, none⟩ = some (.int .i64 t542) ∧ w'.cell? ⟨gb546, 0, none⟩ = some (.int .i64 t543) ∧ w'.cell? ⟨gb546, 1, none⟩ = some (.int .i64 t544)) (ds := []) laws_FnRangeOrder.b32_ (by kernel_rfl) rfl rfl ⟨cl_ BK558 0, cl_ BK558 1, cl_ BK545 0, cl_ BK545 1, cl_ BK546 0, cl_ BK546 1⟩ (fun hHeld => ?_); refine with_tabW laws_FnRangeOrder.tab8 laws_FnRangeOrder.bits8 (fun HT_ HW_ => ?_); generalize w63.drew = w64 at HO553 BK545 BK546 BK554 BK555 BK558 BK561 BK564 HB hHeld ⊢; refine take_y 0 (some 42) laws_FnRangeOrder.b33_ rfl (take_ofW HT_.out HW_.out (by kernel_rfl)) hHeld (Or.inl ⟨by rfl, (by rintro w' ⟨s0, s1, s2, s3, s4, s5⟩; go_simp; with_reducible rfl)⟩) (h := ?_)
       refine take_y 1 (some 43) laws_FnRangeOrder.b34_ rfl (take_ofW HT_.out HW_.out (by kernel_rfl)) hHeld (Or.inl ⟨by rfl, (by rintro w' ⟨s0, s1, s2, s3, s4, s5⟩; go_simp; with_reducible rfl)⟩) (h := ?_)
       refine take_y 2 (some 44) laws_FnRangeOrder.b35_ rfl (take_ofW HT_.out HW_.out (by kernel_rfl)) hHeld (Or.inl ⟨by rfl, (by rintro w' ⟨s0, s1, s2, s3, s4, s5⟩; go_simp; with_reducible rfl)⟩) (h := ?_)
       refine one_ (i := 3) (N := some 45) laws_FnRangeOrder.b36_ rfl rfl (one_of HT_.out (by kernel_rfl)) (by decide) (fun K hK => ?_); refine gs_ Tryd.func25 #[.agg #[.int .i64 t541, .int .i64 t542], .agg #[.int .i64 t543, .int .i64 t544]] (h := ?_); with_reducible refine (spec_RangeJoin.calls kj2 t541 t542 t543 t544 t565 t566 _ A61.out).mono ?_
       rintro e w65 ⟨rfl, hb⟩; refine ⟨_, rfl, ?_⟩; replace HO553 := Aside0.mk (Kd.R_below (sq_row HO553.out) hb); replace BK545 := bb_ BK545 hb; replace BK546 := bb_ BK546 hb; replace BK554 := bb_ BK554 hb; replace BK555 := bb_ BK555 hb; replace BK558 := bb_ BK558 hb; replace BK561 := bb_ BK561 hb; replace BK564 := bb_ BK564 hb; replace HB := hb7_ HB hb GE545 GE546 GE554 GE555 GE558 GE561 GE564
       (try clear hb)
       (try clear hb2)
       (try clear hk)
       (try clear hi)
       refine hK.out _ _ ⟨cl_ BK558 0, cl_ BK558 1, cl_ BK545 0, cl_ BK545 1, cl_ BK546 0, cl_ BK546 1⟩ (fun hHeld => ?_); clear hK K; refine norm_ (a' := ?_) ?_ ?_; rotate_left
       ·
        show Act.put _ (some 45) _ = _; simp only [Act.put, List.setIfInBounds_toArray, List.set_cons_zero, List.set_cons_succ, i64_w, i32_w]; rfl
       refine pure_y 4 (some 46) laws_FnRangeOrder.b37_ (any_of HT_.out (by kernel_rfl)) (h := ?_)
       refine pure_y 5 (some 47) laws_FnRangeOrder.b38_ (any_of HT_.out (by kernel_rfl)) (h := ?_)
       refine pure_n 6 (some 48) laws_FnRangeOrder.b39_ (any_of HT_.out (by kernel_rfl)) (h := ?_)
       refine pure_n 7 (some 49) laws_FnRangeOrder.b40_ (any_of HT_.out (by kernel_rfl)) (h := ?_)
       refine pure_n 8 (some 50) laws_FnRangeOrder.b41_ (any_of HT_.out (by kernel_rfl)) (h := ?_)
       refine pure_n 9 (some 51) laws_FnRangeOrder.b42_ (any_of HT_.out (by kernel_rfl)) (h := ?_)
       refine pure_n 10 (some 52) laws_FnRangeOrder.b43_ (any_of HT_.out (by kernel_rfl)) (h := ?_)
       refine pure_y 11 (some 53) laws_FnRangeOrder.b44_ (any_of HT_.out (by kernel_rfl)) (h := ?_)
       refine pure_y 12 (some 54) laws_FnRangeOrder.b45_ (any_of HT_.out (by kernel_rfl)) (h := ?_)
       refine pure_n 13 (some 55) laws_FnRangeOrder.b46_ (any_of HT_.out (by kernel_rfl)) (h := ?_)
       refine pure_n 14 (some 56) laws_FnRangeOrder.b47_ (any_of HT_.out (by kernel_rfl)) (h := ?_)
       refine pure_n 15 (some 57) laws_FnRangeOrder.b48_ (any_of HT_.out (by kernel_rfl)) (h := ?_)
       refine pure_n 16 (some 58) laws_FnRangeOrder.b49_ (any_of HT_.out (by kernel_rfl)) (h := ?_)
       refine pure_n 17 (some 59) laws_FnRangeOrder.b50_ (any_of HT_.out (by kernel_rfl)) (h := ?_)
       refine pure_n 18 (some 60) laws_FnRangeOrder.b51_ (any_of HT_.out (by kernel_rfl)) (h := ?_)
       refine pure_y 19 (some 61) laws_FnRangeOrder.b52_ (any_of HT_.out (by kernel_rfl)) (h := ?_)
       refine done_ (done_of HT_.out (by kernel_rfl)) ?_
       try go_wp2
       go_meet
       case rel => exact ⟨_, (true), (by first | rfl | (simp; done) | (simp [*]; done)), H', ⟨by have := HJ2.out; first | omega | exact Nat.le_refl _⟩, bk_ BK545, bk_ BK546, bk_ BK554, bk_ BK555, bk_ BK558, bk_ BK561, bk_ BK564, ⟨by repeat (first | (with_reducible first | exact HB.out | apply below_alloc | apply pw_below_drewN | apply below_drew1 | refine below_set ?_ GE545.out | refine below_set ?_ GE546.out | refine below_set ?_ GE554.out | refine below_set ?_ GE555.out | refine below_set ?_ GE558.out | refine below_set ?_ GE561.out | refine below_set ?_ GE564.out) | exact HB.out)⟩⟩
     ·
      rw [if_neg c62] at H; have c62b0 : (!(t556 == t565) || (!(t557 == t566))) = false := by simpa using c62
      clear c62
      (first | rw [c62b0] | (simp only [i64_w, i32_w]; rw [c62b0]) | skip)
      replace H := Option.bind_eq_some_iff.mp H; obtain ⟨⟨t567, t568⟩, A660, H⟩ := H; (try dsimp only at H); have A66 := Aside0.mk A660; clear A660
      by_cases c67 : (!(t559 == t567) || (!(t560 == t568))) = true
      ·
       rw [if_pos c67] at H; have c67b0 : (!(t559 == t567) || (!(t560 == t568))) = true := c67; clear c67
       as_aux_lemma =>
        have H' := Aside0.mk H; clear H
        try go_wp2
        have n0_ : Aside0 (Kd.R (Kd.int .i64) 3 ((w53.setCell ⟨gb564, 0, none⟩ (.int .i64 t562)).setCell ⟨gb564, 1, none⟩ (.int .i64 t563)) w.heap.size (fun _ => True) (.slice Ao51 t551.length co51) t551) := ⟨by (with_reducible repeat (first | apply Kd.R_alloc | apply Kd.R_drewN | apply Kd.R_drew)); exact Kd.R_mono (Kd.R_far (p := ⟨gb564, 1, none⟩) (Kd.R_far (p := ⟨gb564, 0, none⟩) (Kd.R_types HO553.out BK564.out (by decide)) (fun _ hk => hk.2) (.int .i64 t562)) (fun _ hk => hk.2) (.int .i64 t563)) (fun _ hk => trivial)⟩; have n1_ : Aside0 (((w53.setCell ⟨gb564, 0, none⟩ (.int .i64 t562)).setCell ⟨gb564, 1, none⟩ (.int .i64 t563)).heap[gb545]? = some (.cells #[.int .i64 t541, .int .i64 t542] 25 (0, 0))) := bf_ BK545 NB545_564; have n2_ : Aside0 (((w53.setCell ⟨gb564, 0, none⟩ (.int .i64 t562)).setCell ⟨gb564, 1, none⟩ (.int .i64 t563)).heap[gb546]? = some (.cells #[.int .i64 t543, .int .i64 t544] 25 (0, 0))) := bf_ BK546 NB546_564; have n3_ : Aside0 (((w53.setCell ⟨gb564, 0, none⟩ (.int .i64 t562)).setCell ⟨gb564, 1, none⟩ (.int .i64 t563)).heap[gb554]? = some (.cells #[.int .i64 t547, .int .i64 t548] 25 (0, 0))) := bf_ BK554 NB554_564; have n4_ : Aside0 (((w53.setCell ⟨gb564, 0, none⟩ (.int .i64 t562)).setCell ⟨gb564, 1, none⟩ (.int .i64 t563)).heap[gb555]? = some (.cells #[.int .i64 t549, .int .i64 t550] 25 (0, 0))) := bf_ BK555 NB555_564; have n5_ : Aside0 (((w53.setCell ⟨gb564, 0, none⟩ (.int .i64 t562)).setCell ⟨gb564, 1, none⟩ (.int .i64 t563)).heap[gb558]? = some (.cells #[.int .i64 t556, .int .i64 t557] 25 (0, 0))) := bf_ BK558 NB558_564; have n6_ : Aside0 (((w53.setCell ⟨gb564, 0, none⟩ (.int .i64 t562)).setCell ⟨gb564, 1, none⟩ (.int .i64 t563)).heap[gb561]? = some (.cells #[.int .i64 t559, .int .i64 t560] 25 (0, 0))) := bf_ BK561 NB561_564; have n7_ : Aside0 (((w53.setCell ⟨gb564, 0, none⟩ (.int .i64 t562)).setCell ⟨gb564, 1, none⟩ (.int .i64 t563)).heap[gb564]? = some (.cells #[.int .i64 t562, .int .i64 t563] 25 (0, 0))) := ⟨by (with_reducible repeat (first | refine blk_drewN ?_ _ | refine blk_drew ?_ | refine blk_alloc ?_ _)); refine blk_put (cs := #[.int .i64 t562, .int .i64 0]) ?_ 1 _ rfl; (with_reducible repeat (first | refine blk_drewN ?_ _ | refine blk_drew ?_ | refine blk_alloc ?_ _)); refine blk_put (cs := #[.int .i64 0, .int .i64 0]) ?_ 0 _ rfl; (with_reducible repeat (first | refine blk_drewN ?_ _ | refine blk_drew ?_ | refine blk_alloc ?_ _)); exact BK564.out⟩; have n8_ : Aside0 (Below w.heap.size w ((w53.setCell ⟨gb564, 0, none⟩ (.int .i64 t562)).setCell ⟨gb564, 1, none⟩ (.int .i64 t563))) := ⟨by repeat (first | (with_reducible first | exact HB.out | apply below_alloc | apply pw_below_drewN | apply below_drew1 | refine below_set ?_ GE545.out | refine below_set ?_ GE546.out | refine below_set ?_ GE554.out | refine below_set ?_ GE555.out | refine below_set ?_ GE558.out | refine below_set ?_ GE561.out | refine below_set ?_ GE564.out) | exact HB.out)⟩
        (try clear HO553)
        (try clear BK545)
        (try clear BK546)
        (try clear BK554)
        (try clear BK555)
        (try clear BK558)
        (try clear BK561)
        (try clear BK564)
        (try clear HB)
        generalize ((w53.setCell ⟨gb564, 0, none⟩ (.int .i64 t562)).setCell ⟨gb564, 1, none⟩ (.int .i64 t563)) = w68 at n0_ n1_ n2_ n3_ n4_ n5_ n6_ n7_ n8_ ⊢; have HO553 := n0_; have BK545 := n1_; have BK546 := n2_; have BK554 := n3_; have BK555 := n4_; have BK558 := n5_; have BK561 := n6_; have BK564 := n7_; have HB := n8_; clear n0_ n1_ n2_ n3_ n4_ n5_ n6_ n7_ n8_; replace HO553 := Aside0.mk (Kd.R_drew HO553.out); replace BK545 := bd_ BK545; replace BK546 := bd_ BK546; replace BK554 := bd_ BK554; replace BK555 := bd_ BK555; replace BK558 := bd_ BK558; replace BK561 := bd_ BK561; replace BK564 := bd_ BK564; replace HB := hd_ HB; refine start_ (n := 20) (S := fun w' => w'.cell? ⟨gb558, 0, none⟩ = some (.int .i64 t556) ∧ w'.cell? ⟨gb558, 1, none⟩ = some (.int .i64 t557) ∧ w'.cell? ⟨gb545, 0, none⟩ = some (.int .i64 t541) ∧ w'.cell? ⟨gb545, 1, none⟩ = some (.int .i64 t542) ∧ w'.cell? ⟨gb546, 0, none⟩ = some (.int .i64 t543) ∧ w'.cell? ⟨gb546, 1, none⟩ = some (.int .i64 t544) ∧ w'.cell? ⟨gb561, 0, none⟩ = some (.int .i64 t559) ∧ w'.cell? ⟨gb561, 1, none⟩ = some (.int .i64 t560)) (ds := []) laws_FnRangeOrder.b32_ (by kernel_rfl) rfl rfl ⟨cl_ BK558 0, cl_ BK558 1, cl_ BK545 0, cl_ BK545 1, cl_ BK546 0, cl_ BK546 1, cl_ BK561 0, cl_ BK561 1⟩ (fun hHeld => ?_); refine with_tabW laws_FnRangeOrder.tab8 laws_FnRangeOrder.bits8 (fun HT_ HW_ => ?_); generalize w68.drew = w69 at HO553 BK545 BK546 BK554 BK555 BK558 BK561 BK564 HB hHeld ⊢; refine take_y 0 (some 42) laws_FnRangeOrder.b33_ rfl (take_ofW HT_.out HW_.out (by kernel_rfl)) hHeld (Or.inl ⟨by rfl, (by rintro w' ⟨s0, s1, s2, s3, s4, s5, s6, s7⟩; go_simp; with_reducible rfl)⟩) (h := ?_)
        refine take_y 1 (some 43) laws_FnRangeOrder.b34_ rfl (take_ofW HT_.out HW_.out (by kernel_rfl)) hHeld (Or.inl ⟨by rfl, (by rintro w' ⟨s0, s1, s2, s3, s4, s5, s6, s7⟩; go_simp; with_reducible rfl)⟩) (h := ?_)
        refine take_y 2 (some 44) laws_FnRangeOrder.b35_ rfl (take_ofW HT_.out HW_.out (by kernel_rfl)) hHeld (Or.inl ⟨by rfl, (by rintro w' ⟨s0, s1, s2, s3, s4, s5, s6, s7⟩; go_simp; with_reducible rfl)⟩) (h := ?_)
        refine one_ (i := 3) (N := some 45) laws_FnRangeOrder.b36_ rfl rfl (one_of HT_.out (by kernel_rfl)) (by decide) (fun K hK => ?_); refine gs_ Tryd.func25 #[.agg #[.int .i64 t541, .int .i64 t542], .agg #[.int .i64 t543, .int .i64 t544]] (h := ?_); with_reducible refine (spec_RangeJoin.calls kj2 t541 t542 t543 t544 t565 t566 _ A61.out).mono ?_
        rintro e w70 ⟨rfl, hb⟩; refine ⟨_, rfl, ?_⟩; replace HO553 := Aside0.mk (Kd.R_below (sq_row HO553.out) hb); replace BK545 := bb_ BK545 hb; replace BK546 := bb_ BK546 hb; replace BK554 := bb_ BK554 hb; replace BK555 := bb_ BK555 hb; replace BK558 := bb_ BK558 hb; replace BK561 := bb_ BK561 hb; replace BK564 := bb_ BK564 hb; replace HB := hb7_ HB hb GE545 GE546 GE554 GE555 GE558 GE561 GE564
        (try clear hb)
        (try clear hb2)
        (try clear hk)
        (try clear hi)
        refine hK.out _ _ ⟨cl_ BK558 0, cl_ BK558 1, cl_ BK545 0, cl_ BK545 1, cl_ BK546 0, cl_ BK546 1, cl_ BK561 0, cl_ BK561 1⟩ (fun hHeld => ?_); clear hK K; refine norm_ (a' := ?_) ?_ ?_; rotate_left
        ·
         show Act.put _ (some 45) _ = _; simp only [Act.put, List.setIfInBounds_toArray, List.set_cons_zero, List.set_cons_succ, i64_w, i32_w]; rfl
        refine pure_y 4 (some 46) laws_FnRangeOrder.b37_ (any_of HT_.out (by kernel_rfl)) (h := ?_)
        refine pure_y 5 (some 47) laws_FnRangeOrder.b38_ (any_of HT_.out (by kernel_rfl)) (h := ?_)
        refine take_y 6 (some 48) laws_FnRangeOrder.b39_ rfl (take_ofW HT_.out HW_.out (by kernel_rfl)) hHeld (Or.inl ⟨by rfl, (by rintro w' ⟨s0, s1, s2, s3, s4, s5, s6, s7⟩; go_simp; with_reducible rfl)⟩) (h := ?_)
        refine take_y 7 (some 49) laws_FnRangeOrder.b40_ rfl (take_ofW HT_.out HW_.out (by kernel_rfl)) hHeld (Or.inl ⟨by rfl, (by rintro w' ⟨s0, s1, s2, s3, s4, s5, s6, s7⟩; go_simp; with_reducible rfl)⟩) (h := ?_)
        refine take_y 8 (some 50) laws_FnRangeOrder.b41_ rfl (take_ofW HT_.out HW_.out (by kernel_rfl)) hHeld (Or.inl ⟨by rfl, (by rintro w' ⟨s0, s1, s2, s3, s4, s5, s6, s7⟩; go_simp; with_reducible rfl)⟩) (h := ?_)
        refine one_ (i := 9) (N := some 51) laws_FnRangeOrder.b42_ rfl rfl (one_of HT_.out (by kernel_rfl)) (by decide) (fun K hK => ?_); refine gs_ Tryd.func26 #[.agg #[.int .i64 t541, .int .i64 t542], .agg #[.int .i64 t543, .int .i64 t544]] (h := ?_); with_reducible refine (spec_RangeMeet.calls t541 t542 t543 t544 t567 t568 _ A66.out).mono ?_
        rintro e w71 ⟨rfl, hb⟩; refine ⟨_, rfl, ?_⟩; replace HO553 := Aside0.mk (Kd.R_below (sq_row HO553.out) hb); replace BK545 := bb_ BK545 hb; replace BK546 := bb_ BK546 hb; replace BK554 := bb_ BK554 hb; replace BK555 := bb_ BK555 hb; replace BK558 := bb_ BK558 hb; replace BK561 := bb_ BK561 hb; replace BK564 := bb_ BK564 hb; replace HB := hb7_ HB hb GE545 GE546 GE554 GE555 GE558 GE561 GE564
        (try clear hb)
        (try clear hb2)
        (try clear hk)
        (try clear hi)
        refine hK.out _ _ ⟨cl_ BK558 0, cl_ BK558 1, cl_ BK545 0, cl_ BK545 1, cl_ BK546 0, cl_ BK546 1, cl_ BK561 0, cl_ BK561 1⟩ (fun hHeld => ?_); clear hK K; refine norm_ (a' := ?_) ?_ ?_; rotate_left
        ·
         show Act.put _ (some 51) _ = _; simp only [Act.put, List.setIfInBounds_toArray, List.set_cons_zero, List.set_cons_succ, i64_w, i32_w]; rfl
        refine pure_y 10 (some 52) laws_FnRangeOrder.b43_ (any_of HT_.out (by kernel_rfl)) (h := ?_)
        refine pure_y 11 (some 53) laws_FnRangeOrder.b44_ (any_of HT_.out (by kernel_rfl)) (h := ?_)
        refine pure_y 12 (some 54) laws_FnRangeOrder.b45_ (any_of HT_.out (by kernel_rfl)) (h := ?_)
        refine pure_n 13 (some 55) laws_FnRangeOrder.b46_ (any_of HT_.out (by kernel_rfl)) (h := ?_)
        refine pure_n 14 (some 56) laws_FnRangeOrder.b47_ (any_of HT_.out (by kernel_rfl)) (h := ?_)
        refine pure_n 15 (some 57) laws_FnRangeOrder.b48_ (any_of HT_.out (by kernel_rfl)) (h := ?_)
        refine pure_n 16 (some 58) laws_FnRangeOrder.b49_ (any_of HT_.out (by kernel_rfl)) (h := ?_)
        refine pure_n 17 (some 59) laws_FnRangeOrder.b50_ (any_of HT_.out (by kernel_rfl)) (h := ?_)
        refine pure_n 18 (some 60) laws_FnRangeOrder.b51_ (any_of HT_.out (by kernel_rfl)) (h := ?_)
        refine pure_y 19 (some 61) laws_FnRangeOrder.b52_ (any_of HT_.out (by kernel_rfl)) (h := ?_)
        refine done_ (done_of HT_.out (by kernel_rfl)) ?_
        try go_wp2
        go_meet
        case rel => exact ⟨_, (true), (by first | rfl | (simp; done) | (simp [*]; done)), H', ⟨by have := HJ2.out; first | omega | exact Nat.le_refl _⟩, bk_ BK545, bk_ BK546, bk_ BK554, bk_ BK555, bk_ BK558, bk_ BK561, bk_ BK564, ⟨by repeat (first | (with_reducible first | exact HB.out | apply below_alloc | apply pw_below_drewN | apply below_drew1 | refine below_set ?_ GE545.out | refine below_set ?_ GE546.out | refine below_set ?_ GE554.out | refine below_set ?_ GE555.out | refine below_set ?_ GE558.out | refine below_set ?_ GE561.out | refine below_set ?_ GE564.out) | exact HB.out)⟩⟩
      ·
       rw [if_neg c67] at H; have c67b0 : (!(t559 == t567) || (!(t560 == t568))) = false := by simpa using c67
       clear c67; replace H := Option.bind_eq_some_iff.mp H; obtain ⟨⟨t569, t570⟩, A720, H⟩ := H; (try dsimp only at H); have A72 := Aside0.mk A720; clear A720
       as_aux_lemma =>
        have H' := Aside0.mk H; clear H
        try go_wp2
        have n0_ : Aside0 (Kd.R (Kd.int .i64) 3 ((w53.setCell ⟨gb564, 0, none⟩ (.int .i64 t562)).setCell ⟨gb564, 1, none⟩ (.int .i64 t563)) w.heap.size (fun _ => True) (.slice Ao51 t551.length co51) t551) := ⟨by (with_reducible repeat (first | apply Kd.R_alloc | apply Kd.R_drewN | apply Kd.R_drew)); exact Kd.R_mono (Kd.R_far (p := ⟨gb564, 1, none⟩) (Kd.R_far (p := ⟨gb564, 0, none⟩) (Kd.R_types HO553.out BK564.out (by decide)) (fun _ hk => hk.2) (.int .i64 t562)) (fun _ hk => hk.2) (.int .i64 t563)) (fun _ hk => trivial)⟩; have n1_ : Aside0 (((w53.setCell ⟨gb564, 0, none⟩ (.int .i64 t562)).setCell ⟨gb564, 1, none⟩ (.int .i64 t563)).heap[gb545]? = some (.cells #[.int .i64 t541, .int .i64 t542] 25 (0, 0))) := bf_ BK545 NB545_564; have n2_ : Aside0 (((w53.setCell ⟨gb564, 0, none⟩ (.int .i64 t562)).setCell ⟨gb564, 1, none⟩ (.int .i64 t563)).heap[gb546]? = some (.cells #[.int .i64 t543, .int .i64 t544] 25 (0, 0))) := bf_ BK546 NB546_564; have n3_ : Aside0 (((w53.setCell ⟨gb564, 0, none⟩ (.int .i64 t562)).setCell ⟨gb564, 1, none⟩ (.int .i64 t563)).heap[gb554]? = some (.cells #[.int .i64 t547, .int .i64 t548] 25 (0, 0))) := bf_ BK554 NB554_564; have n4_ : Aside0 (((w53.setCell ⟨gb564, 0, none⟩ (.int .i64 t562)).setCell ⟨gb564, 1, none⟩ (.int .i64 t563)).heap[gb555]? = some (.cells #[.int .i64 t549, .int .i64 t550] 25 (0, 0))) := bf_ BK555 NB555_564; have n5_ : Aside0 (((w53.setCell ⟨gb564, 0, none⟩ (.int .i64 t562)).setCell ⟨gb564, 1, none⟩ (.int .i64 t563)).heap[gb558]? = some (.cells #[.int .i64 t556, .int .i64 t557] 25 (0, 0))) := bf_ BK558 NB558_564; have n6_ : Aside0 (((w53.setCell ⟨gb564, 0, none⟩ (.int .i64 t562)).setCell ⟨gb564, 1, none⟩ (.int .i64 t563)).heap[gb561]? = some (.cells #[.int .i64 t559, .int .i64 t560] 25 (0, 0))) := bf_ BK561 NB561_564; have n7_ : Aside0 (((w53.setCell ⟨gb564, 0, none⟩ (.int .i64 t562)).setCell ⟨gb564, 1, none⟩ (.int .i64 t563)).heap[gb564]? = some (.cells #[.int .i64 t562, .int .i64 t563] 25 (0, 0))) := ⟨by (with_reducible repeat (first | refine blk_drewN ?_ _ | refine blk_drew ?_ | refine blk_alloc ?_ _)); refine blk_put (cs := #[.int .i64 t562, .int .i64 0]) ?_ 1 _ rfl; (with_reducible repeat (first | refine blk_drewN ?_ _ | refine blk_drew ?_ | refine blk_alloc ?_ _)); refine blk_put (cs := #[.int .i64 0, .int .i64 0]) ?_ 0 _ rfl; (with_reducible repeat (first | refine blk_drewN ?_ _ | refine blk_drew ?_ | refine blk_alloc ?_ _)); exact BK564.out⟩; have n8_ : Aside0 (Below w.heap.size w ((w53.setCell ⟨gb564, 0, none⟩ (.int .i64 t562)).setCell ⟨gb564, 1, none⟩ (.int .i64 t563))) := ⟨by repeat (first | (with_reducible first | exact HB.out | apply below_alloc | apply pw_below_drewN | apply below_drew1 | refine below_set ?_ GE545.out | refine below_set ?_ GE546.out | refine below_set ?_ GE554.out | refine below_set ?_ GE555.out | refine below_set ?_ GE558.out | refine below_set ?_ GE561.out | refine below_set ?_ GE564.out) | exact HB.out)⟩
        (try clear HO553)
        (try clear BK545)
        (try clear BK546)
        (try clear BK554)
        (try clear BK555)
        (try clear BK558)
        (try clear BK561)
        (try clear BK564)
        (try clear HB)
        generalize ((w53.setCell ⟨gb564, 0, none⟩ (.int .i64 t562)).setCell ⟨gb564, 1, none⟩ (.int .i64 t563)) = w73 at n0_ n1_ n2_ n3_ n4_ n5_ n6_ n7_ n8_ ⊢; have HO553 := n0_; have BK545 := n1_; have BK546 := n2_; have BK554 := n3_; have BK555 := n4_; have BK558 := n5_; have BK561 := n6_; have BK564 := n7_; have HB := n8_; clear n0_ n1_ n2_ n3_ n4_ n5_ n6_ n7_ n8_; replace HO553 := Aside0.mk (Kd.R_drew HO553.out); replace BK545 := bd_ BK545; replace BK546 := bd_ BK546; replace BK554 := bd_ BK554; replace BK555 := bd_ BK555; replace BK558 := bd_ BK558; replace BK561 := bd_ BK561; replace BK564 := bd_ BK564; replace HB := hd_ HB; refine start_ (n := 20) (S := fun w' => w'.cell? ⟨gb558, 0, none⟩ = some (.int .i64 t556) ∧ w'.cell? ⟨gb558, 1, none⟩ = some (.int .i64 t557) ∧ w'.cell? ⟨gb545, 0, none⟩ = some (.int .i64 t541) ∧ w'.cell? ⟨gb545, 1, none⟩ = some (.int .i64 t542) ∧ w'.cell? ⟨gb546, 0, none⟩ = some (.int .i64 t543) ∧ w'.cell? ⟨gb546, 1, none⟩ = some (.int .i64 t544) ∧ w'.cell? ⟨gb561, 0, none⟩ = some (.int .i64 t559) ∧ w'.cell? ⟨gb561, 1, none⟩ = some (.int .i64 t560) ∧ w'.cell? ⟨gb564, 0, none⟩ = some (.int .i64 t562) ∧ w'.cell? ⟨gb564, 1, none⟩ = some (.int .i64 t563)) (ds := []) laws_FnRangeOrder.b32_ (by kernel_rfl) rfl rfl ⟨cl_ BK558 0, cl_ BK558 1, cl_ BK545 0, cl_ BK545 1, cl_ BK546 0, cl_ BK546 1, cl_ BK561 0, cl_ BK561 1, cl_ BK564 0, cl_ BK564 1⟩ (fun hHeld => ?_); refine with_tabW laws_FnRangeOrder.tab8 laws_FnRangeOrder.bits8 (fun HT_ HW_ => ?_); generalize w73.drew = w74 at HO553 BK545 BK546 BK554 BK555 BK558 BK561 BK564 HB hHeld ⊢; refine take_y 0 (some 42) laws_FnRangeOrder.b33_ rfl (take_ofW HT_.out HW_.out (by kernel_rfl)) hHeld (Or.inl ⟨by rfl, (by rintro w' ⟨s0, s1, s2, s3, s4, s5, s6, s7, s8, s9⟩; go_simp; with_reducible rfl)⟩) (h := ?_)
        refine take_y 1 (some 43) laws_FnRangeOrder.b34_ rfl (take_ofW HT_.out HW_.out (by kernel_rfl)) hHeld (Or.inl ⟨by rfl, (by rintro w' ⟨s0, s1, s2, s3, s4, s5, s6, s7, s8, s9⟩; go_simp; with_reducible rfl)⟩) (h := ?_)
        refine take_y 2 (some 44) laws_FnRangeOrder.b35_ rfl (take_ofW HT_.out HW_.out (by kernel_rfl)) hHeld (Or.inl ⟨by rfl, (by rintro w' ⟨s0, s1, s2, s3, s4, s5, s6, s7, s8, s9⟩; go_simp; with_reducible rfl)⟩) (h := ?_)
        refine one_ (i := 3) (N := some 45) laws_FnRangeOrder.b36_ rfl rfl (one_of HT_.out (by kernel_rfl)) (by decide) (fun K hK => ?_); refine gs_ Tryd.func25 #[.agg #[.int .i64 t541, .int .i64 t542], .agg #[.int .i64 t543, .int .i64 t544]] (h := ?_); with_reducible refine (spec_RangeJoin.calls kj2 t541 t542 t543 t544 t565 t566 _ A61.out).mono ?_
        rintro e w75 ⟨rfl, hb⟩; refine ⟨_, rfl, ?_⟩; replace HO553 := Aside0.mk (Kd.R_below (sq_row HO553.out) hb); replace BK545 := bb_ BK545 hb; replace BK546 := bb_ BK546 hb; replace BK554 := bb_ BK554 hb; replace BK555 := bb_ BK555 hb; replace BK558 := bb_ BK558 hb; replace BK561 := bb_ BK561 hb; replace BK564 := bb_ BK564 hb; replace HB := hb7_ HB hb GE545 GE546 GE554 GE555 GE558 GE561 GE564
        (try clear hb)
        (try clear hb2)
        (try clear hk)
        (try clear hi)
        refine hK.out _ _ ⟨cl_ BK558 0, cl_ BK558 1, cl_ BK545 0, cl_ BK545 1, cl_ BK546 0, cl_ BK546 1, cl_ BK561 0, cl_ BK561 1, cl_ BK564 0, cl_ BK564 1⟩ (fun hHeld => ?_); clear hK K; refine norm_ (a' := ?_) ?_ ?_; rotate_left
        ·
         show Act.put _ (some 45) _ = _; simp only [Act.put, List.setIfInBounds_toArray, List.set_cons_zero, List.set_cons_succ, i64_w, i32_w]; rfl
        refine pure_y 4 (some 46) laws_FnRangeOrder.b37_ (any_of HT_.out (by kernel_rfl)) (h := ?_)
        refine pure_y 5 (some 47) laws_FnRangeOrder.b38_ (any_of HT_.out (by kernel_rfl)) (h := ?_)
        refine take_y 6 (some 48) laws_FnRangeOrder.b39_ rfl (take_ofW HT_.out HW_.out (by kernel_rfl)) hHeld (Or.inl ⟨by rfl, (by rintro w' ⟨s0, s1, s2, s3, s4, s5, s6, s7, s8, s9⟩; go_simp; with_reducible rfl)⟩) (h := ?_)
        refine take_y 7 (some 49) laws_FnRangeOrder.b40_ rfl (take_ofW HT_.out HW_.out (by kernel_rfl)) hHeld (Or.inl ⟨by rfl, (by rintro w' ⟨s0, s1, s2, s3, s4, s5, s6, s7, s8, s9⟩; go_simp; with_reducible rfl)⟩) (h := ?_)
        refine take_y 8 (some 50) laws_FnRangeOrder.b41_ rfl (take_ofW HT_.out HW_.out (by kernel_rfl)) hHeld (Or.inl ⟨by rfl, (by rintro w' ⟨s0, s1, s2, s3, s4, s5, s6, s7, s8, s9⟩; go_simp; with_reducible rfl)⟩) (h := ?_)
        refine one_ (i := 9) (N := some 51) laws_FnRangeOrder.b42_ rfl rfl (one_of HT_.out (by kernel_rfl)) (by decide) (fun K hK => ?_); refine gs_ Tryd.func26 #[.agg #[.int .i64 t541, .int .i64 t542], .agg #[.int .i64 t543, .int .i64 t544]] (h := ?_); with_reducible refine (spec_RangeMeet.calls t541 t542 t543 t544 t567 t568 _ A66.out).mono ?_
        rintro e w76 ⟨rfl, hb⟩; refine ⟨_, rfl, ?_⟩; replace HO553 := Aside0.mk (Kd.R_below (sq_row HO553.out) hb); replace BK545 := bb_ BK545 hb; replace BK546 := bb_ BK546 hb; replace BK554 := bb_ BK554 hb; replace BK555 := bb_ BK555 hb; replace BK558 := bb_ BK558 hb; replace BK561 := bb_ BK561 hb; replace BK564 := bb_ BK564 hb; replace HB := hb7_ HB hb GE545 GE546 GE554 GE555 GE558 GE561 GE564
        (try clear hb)
        (try clear hb2)
        (try clear hk)
        (try clear hi)
        refine hK.out _ _ ⟨cl_ BK558 0, cl_ BK558 1, cl_ BK545 0, cl_ BK545 1, cl_ BK546 0, cl_ BK546 1, cl_ BK561 0, cl_ BK561 1, cl_ BK564 0, cl_ BK564 1⟩ (fun hHeld => ?_); clear hK K; refine norm_ (a' := ?_) ?_ ?_; rotate_left
        ·
         show Act.put _ (some 51) _ = _; simp only [Act.put, List.setIfInBounds_toArray, List.set_cons_zero, List.set_cons_succ, i64_w, i32_w]; rfl
        refine pure_y 10 (some 52) laws_FnRangeOrder.b43_ (any_of HT_.out (by kernel_rfl)) (h := ?_)
        refine pure_y 11 (some 53) laws_FnRangeOrder.b44_ (any_of HT_.out (by kernel_rfl)) (h := ?_)
        refine pure_y 12 (some 54) laws_FnRangeOrder.b45_ (any_of HT_.out (by kernel_rfl)) (h := ?_)
        refine pure_y 16 (some 58) #[true, true, true, true, true, true, true, true, true, true, true, true, true, false, false, false, true, false, false, false] (any_of HT_.out (by kernel_rfl)) (h := ?_)
        refine take_y 13 (some 55) #[true, true, true, true, true, true, true, true, true, true, true, true, true, true, false, false, true, false, false, false] rfl (take_ofW HT_.out HW_.out (by kernel_rfl)) hHeld (Or.inl ⟨by rfl, (by rintro w' ⟨s0, s1, s2, s3, s4, s5, s6, s7, s8, s9⟩; go_simp; with_reducible rfl)⟩) (h := ?_)
        refine take_y 14 (some 56) #[true, true, true, true, true, true, true, true, true, true, true, true, true, true, true, false, true, false, false, false] rfl (take_ofW HT_.out HW_.out (by kernel_rfl)) hHeld (Or.inl ⟨by rfl, (by rintro w' ⟨s0, s1, s2, s3, s4, s5, s6, s7, s8, s9⟩; go_simp; with_reducible rfl)⟩) (h := ?_)
        refine take_y 15 (some 57) laws_FnRangeOrder.b49_ rfl (take_ofW HT_.out HW_.out (by kernel_rfl)) hHeld (Or.inl ⟨by rfl, (by rintro w' ⟨s0, s1, s2, s3, s4, s5, s6, s7, s8, s9⟩; go_simp; with_reducible rfl)⟩) (h := ?_)
        refine one_ (i := 17) (N := some 59) laws_FnRangeOrder.b50_ rfl rfl (one_of HT_.out (by kernel_rfl)) (by decide) (fun K hK => ?_); refine gs_ Tryd.func27 #[.agg #[.int .i64 t541, .int .i64 t542], .agg #[.int .i64 t543, .int .i64 t544], .slice Ao51 t551.length co51] (h := ?_); with_reducible refine (spec_RangeWiden.calls kj2 t541 t542 t543 t544 _ _ t551 t569 t570 _ ?side1 ?side2 A72.out).mono ?_
        (case side1 => repeat (first | exact (Kd.R_reads' HO553.out).2.2 | (with_reducible refine Kd.C_alloc ?_ _) | (with_reducible refine Kd.C_drewN ?_ _) | (with_reducible refine Kd.C_drew ?_)))
        (case side2 => exact (Kd.R_reads' HO553.out).2.1)
        rintro e w77 ⟨rfl, hb⟩; refine ⟨_, rfl, ?_⟩; replace HO553 := Aside0.mk (Kd.R_below (sq_row HO553.out) hb); replace BK545 := bb_ BK545 hb; replace BK546 := bb_ BK546 hb; replace BK554 := bb_ BK554 hb; replace BK555 := bb_ BK555 hb; replace BK558 := bb_ BK558 hb; replace BK561 := bb_ BK561 hb; replace BK564 := bb_ BK564 hb; replace HB := hb7_ HB hb GE545 GE546 GE554 GE555 GE558 GE561 GE564
        (try clear hb)
        (try clear hb2)
        (try clear hk)
        (try clear hi)
        refine hK.out _ _ ⟨cl_ BK558 0, cl_ BK558 1, cl_ BK545 0, cl_ BK545 1, cl_ BK546 0, cl_ BK546 1, cl_ BK561 0, cl_ BK561 1, cl_ BK564 0, cl_ BK564 1⟩ (fun hHeld => ?_); clear hK K; refine norm_ (a' := ?_) ?_ ?_; rotate_left
        ·
         show Act.put _ (some 59) _ = _; simp only [Act.put, List.setIfInBounds_toArray, List.set_cons_zero, List.set_cons_succ, i64_w, i32_w]; rfl
        refine pure_y 18 (some 60) laws_FnRangeOrder.b51_ (any_of HT_.out (by kernel_rfl)) (h := ?_)
        refine pure_y 19 (some 61) laws_FnRangeOrder.b52_ (any_of HT_.out (by kernel_rfl)) (h := ?_)
        refine done_ (done_of HT_.out (by kernel_rfl)) ?_
        try go_wp2
        go_meet
        case rel => exact ⟨_, ((!(t562 == t569) || (!(t563 == t570)))), (by first | rfl | (simp; done) | (simp [*]; done)), H', ⟨by have := HJ2.out; first | omega | exact Nat.le_refl _⟩, bk_ BK545, bk_ BK546, bk_ BK554, bk_ BK555, bk_ BK558, bk_ BK561, bk_ BK564, ⟨by repeat (first | (with_reducible first | exact HB.out | apply below_alloc | apply pw_below_drewN | apply below_drew1 | refine below_set ?_ GE545.out | refine below_set ?_ GE546.out | refine below_set ?_ GE554.out | refine below_set ?_ GE555.out | refine below_set ?_ GE558.out | refine below_set ?_ GE561.out | refine below_set ?_ GE564.out) | exact HB.out)⟩⟩
    case rest =>
     clear HC13
     try clear c2
     try clear p2
     try clear c6
     try clear c25
     try clear c26
     try clear c27
     try clear c67
     try clear c67b0
     obtain ⟨kq, x61_12, rfl, HA, HJ12, BK545, BK546, BK554, BK555, BK558, BK561, BK564, HB⟩ := hcut; cases kq with
     | zero => exact absurd HA.out (by simp [laws_FnRangeOrder.j1])
     | succ kj12 =>
      have H := HA.out; clear HA; simp only [laws_FnRangeOrder.j1] at H
      by_cases c78 : x61_12 = true
      ·
       subst c78; have H1 : (some false) = some r := by rw [if_pos rfl] at H; exact H
       clear H; have H := H1; clear H1
       as_aux_lemma =>
        exact absurd ((Option.some.inj H).trans hr_) Bool.false_ne_true
      ·
       replace c78 := Bool.eq_false_iff.mpr c78; subst c78; have H1 : ((spec_RangeOk.f t541 t542).bind fun t571 => (if t571 = true then ((spec_RangeOk.f t543 t544).bind fun t572 => (laws_FnRangeOrder.j2 kj12 (!t572) t541 t542 t543 t544 t547 t548 t556 t557 t559 t560 t562 t563)) else (laws_FnRangeOrder.j2 kj12 true t541 t542 t543 t544 t547 t548 t556 t557 t559 t560 t562 t563))) = some r := by rw [if_neg (show ¬ (false = true) by decide)] at H; exact H
       clear H; have H := H1; clear H1; have HC79 := Aside0.mk H; clear H
       go_upto_region 10 with (fail)
       go_cut [69] (fun v69 wc => ∃ (kq : Nat) (x69_78 : Bool), v69 = .bool x69_78 ∧ Aside0 (laws_FnRangeOrder.j2 kq x69_78 t541 t542 t543 t544 t547 t548 t556 t557 t559 t560 t562 t563 = some r) ∧ Aside0 (kq ≤ kj12) ∧ Aside0 (wc.heap[gb545]? = some (.cells #[.int .i64 t541, .int .i64 t542] 25 (0, 0))) ∧ Aside0 (wc.heap[gb546]? = some (.cells #[.int .i64 t543, .int .i64 t544] 25 (0, 0))) ∧ Aside0 (wc.heap[gb554]? = some (.cells #[.int .i64 t547, .int .i64 t548] 25 (0, 0))) ∧ Aside0 (wc.heap[gb555]? = some (.cells #[.int .i64 t549, .int .i64 t550] 25 (0, 0))) ∧ Aside0 (wc.heap[gb558]? = some (.cells #[.int .i64 t556, .int .i64 t557] 25 (0, 0))) ∧ Aside0 (wc.heap[gb561]? = some (.cells #[.int .i64 t559, .int .i64 t560] 25 (0, 0))) ∧ Aside0 (wc.heap[gb564]? = some (.cells #[.int .i64 t562, .int .i64 t563] 25 (0, 0))) ∧ Aside0 (Below w.heap.size w wc))
       case first =>
        have H := HC79.out; clear HC79; replace H := Option.bind_eq_some_iff.mp H; obtain ⟨t571, A800, H⟩ := H; (try dsimp only at H); have A80 := Aside0.mk A800; clear A800
        by_cases c81 : t571 = true
        ·
         subst c81; have H1 : ((spec_RangeOk.f t543 t544).bind fun t572 => (laws_FnRangeOrder.j2 kj12 (!t572) t541 t542 t543 t544 t547 t548 t556 t557 t559 t560 t562 t563)) = some r := by rw [if_pos rfl] at H; exact H
         clear H; have H := H1; clear H1; replace H := Option.bind_eq_some_iff.mp H; obtain ⟨t572, A820, H⟩ := H; (try dsimp only at H); have A82 := Aside0.mk A820; clear A820
         as_aux_lemma =>
          have H' := Aside0.mk H; clear H; have hnb83 := NB545_546.out; have hnc83 := NB546_545.out; have hnb84 := NB545_554.out; have hnc84 := NB554_545.out; have hnb85 := NB545_555.out; have hnc85 := NB555_545.out; have hnb86 := NB545_558.out; have hnc86 := NB558_545.out; have hnb87 := NB545_561.out; have hnc87 := NB561_545.out; have hnb88 := NB545_564.out; have hnc88 := NB564_545.out; have hcz89_0 := cl_ (v := .int .i64 t541) BK545 0; have hcz89_1 := cl_ (v := .int .i64 t542) BK545 1; have hfz89_0 := blk_frozen BK545.out 0; have hfz89_1 := blk_frozen BK545.out 1
          go_wp2_with (first | ((with_reducible refine gate_callee (f := 16) rfl ?_); refine gl_ 63 Tryd.func16 #[.agg #[.int .i64 t541, .int .i64 t542]] (h := ?_); (with_reducible refine (spec_RangeOk.calls t541 t542 true _ A80.out).mono ?_); rintro e w90 ⟨rfl, hb⟩; refine ⟨_, rfl, ?_⟩; replace BK545 := bb_ BK545 hb; replace BK546 := bb_ BK546 hb; replace BK554 := bb_ BK554 hb; replace BK555 := bb_ BK555 hb; replace BK558 := bb_ BK558 hb; replace BK561 := bb_ BK561 hb; replace BK564 := bb_ BK564 hb; replace HB := hb7_ HB hb GE545 GE546 GE554 GE555 GE558 GE561 GE564; (try clear hb); (try clear hb2); (try clear hk); (try clear hi); have hnb91 := NB546_554.out; have hnc91 := NB554_546.out; have hnb92 := NB546_555.out; have hnc92 := NB555_546.out; have hnb93 := NB546_558.out; have hnc93 := NB558_546.out; have hnb94 := NB546_561.out; have hnc94 := NB561_546.out; have hnb95 := NB546_564.out; have hnc95 := NB564_546.out; have hcz96_0 := cl_ (v := .int .i64 t543) BK546 0; have hcz96_1 := cl_ (v := .int .i64 t544) BK546 1; have hfz96_0 := blk_frozen BK546.out 0; have hfz96_1 := blk_frozen BK546.out 1) | (go_at_call 16; (with_reducible refine (spec_RangeOk.calls t543 t544 t572 _ A82.out).mono ?_); rintro e w97 ⟨rfl, hb⟩; replace BK545 := bb_ BK545 hb; replace BK546 := bb_ BK546 hb; replace BK554 := bb_ BK554 hb; replace BK555 := bb_ BK555 hb; replace BK558 := bb_ BK558 hb; replace BK561 := bb_ BK561 hb; replace BK564 := bb_ BK564 hb; replace HB := hb7_ HB hb GE545 GE546 GE554 GE555 GE558 GE561 GE564; (try clear hb); (try clear hb2); (try clear hk); (try clear hi)))
          go_meet
          case rel => exact ⟨_, (!t572), (by first | rfl | (simp; done) | (simp [*]; done)), H', ⟨by have := HJ2.out; have := HJ12.out; first | omega | exact Nat.le_refl _⟩, bk_ BK545, bk_ BK546, bk_ BK554, bk_ BK555, bk_ BK558, bk_ BK561, bk_ BK564, ⟨by repeat (first | (with_reducible first | exact HB.out | apply below_alloc | apply pw_below_drewN | apply below_drew1 | refine below_set ?_ GE545.out | refine below_set ?_ GE546.out | refine below_set ?_ GE554.out | refine below_set ?_ GE555.out | refine below_set ?_ GE558.out | refine below_set ?_ GE561.out | refine below_set ?_ GE564.out) | exact HB.out)⟩⟩
        ·
         replace c81 := Bool.eq_false_iff.mpr c81; subst c81; have H1 : (laws_FnRangeOrder.j2 kj12 true t541 t542 t543 t544 t547 t548 t556 t557 t559 t560 t562 t563) = some r := by rw [if_neg (show ¬ (false = true) by decide)] at H; exact H
         clear H; have H := H1; clear H1
         as_aux_lemma =>
          have H' := Aside0.mk H; clear H; have hnb98 := NB545_546.out; have hnc98 := NB546_545.out; have hnb99 := NB545_554.out; have hnc99 := NB554_545.out; have hnb100 := NB545_555.out; have hnc100 := NB555_545.out; have hnb101 := NB545_558.out; have hnc101 := NB558_545.out; have hnb102 := NB545_561.out; have hnc102 := NB561_545.out; have hnb103 := NB545_564.out; have hnc103 := NB564_545.out; have hcz104_0 := cl_ (v := .int .i64 t541) BK545 0; have hcz104_1 := cl_ (v := .int .i64 t542) BK545 1; have hfz104_0 := blk_frozen BK545.out 0; have hfz104_1 := blk_frozen BK545.out 1
          go_wp2_with (first | ((with_reducible refine gate_callee (f := 16) rfl ?_); refine gl_ 63 Tryd.func16 #[.agg #[.int .i64 t541, .int .i64 t542]] (h := ?_); (with_reducible refine (spec_RangeOk.calls t541 t542 false _ A80.out).mono ?_); rintro e w105 ⟨rfl, hb⟩; refine ⟨_, rfl, ?_⟩; replace BK545 := bb_ BK545 hb; replace BK546 := bb_ BK546 hb; replace BK554 := bb_ BK554 hb; replace BK555 := bb_ BK555 hb; replace BK558 := bb_ BK558 hb; replace BK561 := bb_ BK561 hb; replace BK564 := bb_ BK564 hb; replace HB := hb7_ HB hb GE545 GE546 GE554 GE555 GE558 GE561 GE564; (try clear hb); (try clear hb2); (try clear hk); (try clear hi)))
          go_meet
          case rel => exact ⟨_, (true), (by first | rfl | (simp; done) | (simp [*]; done)), H', ⟨by have := HJ2.out; have := HJ12.out; first | omega | exact Nat.le_refl _⟩, bk_ BK545, bk_ BK546, bk_ BK554, bk_ BK555, bk_ BK558, bk_ BK561, bk_ BK564, ⟨by repeat (first | (with_reducible first | exact HB.out | apply below_alloc | apply pw_below_drewN | apply below_drew1 | refine below_set ?_ GE545.out | refine below_set ?_ GE546.out | refine below_set ?_ GE554.out | refine below_set ?_ GE555.out | refine below_set ?_ GE558.out | refine below_set ?_ GE561.out | refine below_set ?_ GE564.out) | exact HB.out)⟩⟩
       case rest =>
        clear HC79
        try clear c1
        try clear c2
        try clear p2
        try clear c6
        try clear c7
        try clear c8
        try clear c9
        try clear c10
        try clear c16
        try clear c25
        try clear c26
        try clear c27
        try clear c67
        try clear c67b0
        try clear c78
        try clear c81
        try clear c83
        try clear c84
        try clear c85
        try clear c86
        try clear c87
        try clear c88
        try clear c91
        try clear c92
        try clear c93
        try clear c94
        try clear c95
        try clear c98
        try clear c99
        try clear c100
        try clear c101
        try clear c102
        try clear c103
        try clear hcz104_0
        try clear hcz104_1
        try clear hcz89_0
        try clear hcz89_1
        try clear hcz96_0
        try clear hcz96_1
        try clear hfz104_0
        try clear hfz104_1
        try clear hfz89_0
        try clear hfz89_1
        try clear hfz96_0
        try clear hfz96_1
        try clear p2
        obtain ⟨kq, x69_78, rfl, HA, HJ78, BK545, BK546, BK554, BK555, BK558, BK561, BK564, HB⟩ := hcut; cases kq with
        | zero => exact absurd HA.out (by simp [laws_FnRangeOrder.j2])
        | succ kj78 =>
         have H := HA.out; clear HA; simp only [laws_FnRangeOrder.j2] at H
         by_cases c106 : x69_78 = true
         ·
          subst c106; have H1 : (some true) = some r := by rw [if_pos rfl] at H; exact H
          clear H; have H := H1; clear H1
          as_aux_lemma =>
           obtain rfl := Option.some.inj H
           go_wp2
           go_ret
           exact ⟨by first | rfl | (simp [errW_none, errW_some] <;> rfl) | (simp [*, errW_none, errW_some] <;> rfl), by repeat (first | (with_reducible first | exact HB.out | apply below_alloc | apply pw_below_drewN | apply below_drew1 | refine below_set ?_ GE545.out | refine below_set ?_ GE546.out | refine below_set ?_ GE554.out | refine below_set ?_ GE555.out | refine below_set ?_ GE558.out | refine below_set ?_ GE561.out | refine below_set ?_ GE564.out) | exact HB.out)⟩
         ·
          replace c106 := Bool.eq_false_iff.mpr c106; subst c106; have H1 : ((impl_RangeLeq.f t541 t542 t556 t557).bind fun t573 => (if t573 = true then ((impl_RangeLeq.f t543 t544 t556 t557).bind fun t574 => (if t574 = true then ((impl_RangeLeq.f t559 t560 t541 t542).bind fun t575 => (if t575 = true then ((impl_RangeLeq.f t559 t560 t543 t544).bind fun t576 => (if t576 = true then ((impl_RangeLeq.f t541 t542 t543 t544).bind fun t577 => (laws_FnRangeOrder.j3 kj78 (t577 != (t556 == t543 && (t557 == t544))) t541 t542 t543 t544 t547 t548 t556 t557 t562 t563)) else (laws_FnRangeOrder.j3 kj78 true t541 t542 t543 t544 t547 t548 t556 t557 t562 t563))) else (laws_FnRangeOrder.j3 kj78 true t541 t542 t543 t544 t547 t548 t556 t557 t562 t563))) else (laws_FnRangeOrder.j3 kj78 true t541 t542 t543 t544 t547 t548 t556 t557 t562 t563))) else (laws_FnRangeOrder.j3 kj78 true t541 t542 t543 t544 t547 t548 t556 t557 t562 t563))) = some r := by rw [if_neg (show ¬ (false = true) by decide)] at H; exact H
          clear H; have H := H1; clear H1; have HC107 := Aside0.mk H; clear H
          go_upto_region 12 with (fail)
          go_cut [100] (fun v100 wc => ∃ (kq : Nat) (x100_106 : Bool), v100 = .bool x100_106 ∧ Aside0 (laws_FnRangeOrder.j3 kq x100_106 t541 t542 t543 t544 t547 t548 t556 t557 t562 t563 = some r) ∧ Aside0 (kq ≤ kj78) ∧ Aside0 (wc.heap[gb545]? = some (.cells #[.int .i64 t541, .int .i64 t542] 25 (0, 0))) ∧ Aside0 (wc.heap[gb546]? = some (.cells #[.int .i64 t543, .int .i64 t544] 25 (0, 0))) ∧ Aside0 (wc.heap[gb554]? = some (.cells #[.int .i64 t547, .int .i64 t548] 25 (0, 0))) ∧ Aside0 (wc.heap[gb555]? = some (.cells #[.int .i64 t549, .int .i64 t550] 25 (0, 0))) ∧ Aside0 (wc.heap[gb558]? = some (.cells #[.int .i64 t556, .int .i64 t557] 25 (0, 0))) ∧ Aside0 (wc.heap[gb561]? = some (.cells #[.int .i64 t559, .int .i64 t560] 25 (0, 0))) ∧ Aside0 (wc.heap[gb564]? = some (.cells #[.int .i64 t562, .int .i64 t563] 25 (0, 0))) ∧ Aside0 (Below w.heap.size w wc))
          case first =>
           have H := HC107.out; clear HC107; replace H := Option.bind_eq_some_iff.mp H; obtain ⟨t573, A1080, H⟩ := H; (try dsimp only at H); have A108 := Aside0.mk A1080; clear A1080
           by_cases c109 : t573 = true
           ·
            subst c109; have H1 : ((impl_RangeLeq.f t543 t544 t556 t557).bind fun t574 => (if t574 = true then ((impl_RangeLeq.f t559 t560 t541 t542).bind fun t575 => (if t575 = true then ((impl_RangeLeq.f t559 t560 t543 t544).bind fun t576 => (if t576 = true then ((impl_RangeLeq.f t541 t542 t543 t544).bind fun t577 => (laws_FnRangeOrder.j3 kj78 (t577 != (t556 == t543 && (t557 == t544))) t541 t542 t543 t544 t547 t548 t556 t557 t562 t563)) else (laws_FnRangeOrder.j3 kj78 true t541 t542 t543 t544 t547 t548 t556 t557 t562 t563))) else (laws_FnRangeOrder.j3 kj78 true t541 t542 t543 t544 t547 t548 t556 t557 t562 t563))) else (laws_FnRangeOrder.j3 kj78 true t541 t542 t543 t544 t547 t548 t556 t557 t562 t563))) = some r := by rw [if_pos rfl] at H; exact H
            clear H; have H := H1; clear H1; replace H := Option.bind_eq_some_iff.mp H; obtain ⟨t574, A1100, H⟩ := H; (try dsimp only at H); have A110 := Aside0.mk A1100; clear A1100
            by_cases c111 : t574 = true
            ·
             subst c111; have H1 : ((impl_RangeLeq.f t559 t560 t541 t542).bind fun t575 => (if t575 = true then ((impl_RangeLeq.f t559 t560 t543 t544).bind fun t576 => (if t576 = true then ((impl_RangeLeq.f t541 t542 t543 t544).bind fun t577 => (laws_FnRangeOrder.j3 kj78 (t577 != (t556 == t543 && (t557 == t544))) t541 t542 t543 t544 t547 t548 t556 t557 t562 t563)) else (laws_FnRangeOrder.j3 kj78 true t541 t542 t543 t544 t547 t548 t556 t557 t562 t563))) else (laws_FnRangeOrder.j3 kj78 true t541 t542 t543 t544 t547 t548 t556 t557 t562 t563))) = some r := by rw [if_pos rfl] at H; exact H
             clear H; have H := H1; clear H1; replace H := Option.bind_eq_some_iff.mp H; obtain ⟨t575, A1120, H⟩ := H; (try dsimp only at H); have A112 := Aside0.mk A1120; clear A1120
             by_cases c113 : t575 = true
             ·
              subst c113; have H1 : ((impl_RangeLeq.f t559 t560 t543 t544).bind fun t576 => (if t576 = true then ((impl_RangeLeq.f t541 t542 t543 t544).bind fun t577 => (laws_FnRangeOrder.j3 kj78 (t577 != (t556 == t543 && (t557 == t544))) t541 t542 t543 t544 t547 t548 t556 t557 t562 t563)) else (laws_FnRangeOrder.j3 kj78 true t541 t542 t543 t544 t547 t548 t556 t557 t562 t563))) = some r := by rw [if_pos rfl] at H; exact H
              clear H; have H := H1; clear H1; replace H := Option.bind_eq_some_iff.mp H; obtain ⟨t576, A1140, H⟩ := H; (try dsimp only at H); have A114 := Aside0.mk A1140; clear A1140
              by_cases c115 : t576 = true
              ·
               subst c115; have H1 : ((impl_RangeLeq.f t541 t542 t543 t544).bind fun t577 => (laws_FnRangeOrder.j3 kj78 (t577 != (t556 == t543 && (t557 == t544))) t541 t542 t543 t544 t547 t548 t556 t557 t562 t563)) = some r := by rw [if_pos rfl] at H; exact H
               clear H; have H := H1; clear H1; replace H := Option.bind_eq_some_iff.mp H; obtain ⟨t577, A1160, H⟩ := H; (try dsimp only at H); have A116 := Aside0.mk A1160; clear A1160
               as_aux_lemma =>
                have H' := Aside0.mk H; clear H
                try go_wp2
                replace BK545 := bd_ BK545; replace BK546 := bd_ BK546; replace BK554 := bd_ BK554; replace BK555 := bd_ BK555; replace BK558 := bd_ BK558; replace BK561 := bd_ BK561; replace BK564 := bd_ BK564; replace HB := hd_ HB; refine start_ (n := 31) (S := fun w' => w'.cell? ⟨gb545, 0, none⟩ = some (.int .i64 t541) ∧ w'.cell? ⟨gb545, 1, none⟩ = some (.int .i64 t542) ∧ w'.cell? ⟨gb558, 0, none⟩ = some (.int .i64 t556) ∧ w'.cell? ⟨gb558, 1, none⟩ = some (.int .i64 t557) ∧ w'.cell? ⟨gb546, 0, none⟩ = some (.int .i64 t543) ∧ w'.cell? ⟨gb546, 1, none⟩ = some (.int .i64 t544) ∧ w'.cell? ⟨gb561, 0, none⟩ = some (.int .i64 t559) ∧ w'.cell? ⟨gb561, 1, none⟩ = some (.int .i64 t560)) (ds := []) laws_FnRangeOrder.b0_ (by kernel_rfl) rfl rfl ⟨cl_ BK545 0, cl_ BK545 1, cl_ BK558 0, cl_ BK558 1, cl_ BK546 0, cl_ BK546 1, cl_ BK561 0, cl_ BK561 1⟩ (fun hHeld => ?_); refine with_tabW laws_FnRangeOrder.tab12 laws_FnRangeOrder.bits12 (fun HT_ HW_ => ?_); generalize wc.drew = w117 at BK545 BK546 BK554 BK555 BK558 BK561 BK564 HB hHeld ⊢; refine take_y 0 (some 70) laws_FnRangeOrder.b1_ rfl (take_ofW HT_.out HW_.out (by kernel_rfl)) hHeld (Or.inl ⟨by rfl, (by rintro w' ⟨s0, s1, s2, s3, s4, s5, s6, s7⟩; go_simp; with_reducible rfl)⟩) (h := ?_)
                refine take_y 1 (some 71) laws_FnRangeOrder.b2_ rfl (take_ofW HT_.out HW_.out (by kernel_rfl)) hHeld (Or.inl ⟨by rfl, (by rintro w' ⟨s0, s1, s2, s3, s4, s5, s6, s7⟩; go_simp; with_reducible rfl)⟩) (h := ?_)
                refine one_ (i := 2) (N := some 72) laws_FnRangeOrder.b3_ rfl rfl (one_of HT_.out (by kernel_rfl)) (by decide) (fun K hK => ?_); refine gs_ Tryd.func28 #[.agg #[.int .i64 t541, .int .i64 t542], .agg #[.int .i64 t556, .int .i64 t557]] (h := ?_); with_reducible refine (impl_RangeLeq.calls t541 t542 t556 t557 true _ ?side1 A108.out).mono ?_
                (case side1 => exact GL0.below HG0.out (sq_below7 HB.out GE545.out GE546.out GE554.out GE555.out GE558.out GE561.out GE564.out))
                rintro e w118 ⟨rfl, hb⟩; refine ⟨_, rfl, ?_⟩; replace BK545 := bb_ BK545 hb; replace BK546 := bb_ BK546 hb; replace BK554 := bb_ BK554 hb; replace BK555 := bb_ BK555 hb; replace BK558 := bb_ BK558 hb; replace BK561 := bb_ BK561 hb; replace BK564 := bb_ BK564 hb; replace HB := hb7_ HB hb GE545 GE546 GE554 GE555 GE558 GE561 GE564
                (try clear hb)
                (try clear hb2)
                (try clear hk)
                (try clear hi)
                refine hK.out _ _ ⟨cl_ BK545 0, cl_ BK545 1, cl_ BK558 0, cl_ BK558 1, cl_ BK546 0, cl_ BK546 1, cl_ BK561 0, cl_ BK561 1⟩ (fun hHeld => ?_); clear hK K; refine norm_ (a' := ?_) ?_ ?_; rotate_left
                ·
                 show Act.put _ (some 72) _ = _; simp only [Act.put, List.setIfInBounds_toArray, List.set_cons_zero, List.set_cons_succ, i64_w, i32_w]; rfl
                refine pure_y 3 (some 73) laws_FnRangeOrder.b4_ (any_of HT_.out (by kernel_rfl)) (h := ?_)
                refine pure_y 4 (some 74) laws_FnRangeOrder.b5_ (any_of HT_.out (by kernel_rfl)) (h := ?_)
                refine take_y 5 (some 75) laws_FnRangeOrder.b6_ rfl (take_ofW HT_.out HW_.out (by kernel_rfl)) hHeld (Or.inl ⟨by rfl, (by rintro w' ⟨s0, s1, s2, s3, s4, s5, s6, s7⟩; go_simp; with_reducible rfl)⟩) (h := ?_)
                refine take_y 6 (some 76) laws_FnRangeOrder.b7_ rfl (take_ofW HT_.out HW_.out (by kernel_rfl)) hHeld (Or.inl ⟨by rfl, (by rintro w' ⟨s0, s1, s2, s3, s4, s5, s6, s7⟩; go_simp; with_reducible rfl)⟩) (h := ?_)
                refine one_ (i := 7) (N := some 77) laws_FnRangeOrder.b8_ rfl rfl (one_of HT_.out (by kernel_rfl)) (by decide) (fun K hK => ?_); refine gs_ Tryd.func28 #[.agg #[.int .i64 t543, .int .i64 t544], .agg #[.int .i64 t556, .int .i64 t557]] (h := ?_); with_reducible refine (impl_RangeLeq.calls t543 t544 t556 t557 true _ ?side1 A110.out).mono ?_
                (case side1 => exact GL0.below HG0.out (sq_below7 HB.out GE545.out GE546.out GE554.out GE555.out GE558.out GE561.out GE564.out))
                rintro e w119 ⟨rfl, hb⟩; refine ⟨_, rfl, ?_⟩; replace BK545 := bb_ BK545 hb; replace BK546 := bb_ BK546 hb; replace BK554 := bb_ BK554 hb; replace BK555 := bb_ BK555 hb; replace BK558 := bb_ BK558 hb; replace BK561 := bb_ BK561 hb; replace BK564 := bb_ BK564 hb; replace HB := hb7_ HB hb GE545 GE546 GE554 GE555 GE558 GE561 GE564
                (try clear hb)
                (try clear hb2)
                (try clear hk)
                (try clear hi)
                refine hK.out _ _ ⟨cl_ BK545 0, cl_ BK545 1, cl_ BK558 0, cl_ BK558 1, cl_ BK546 0, cl_ BK546 1, cl_ BK561 0, cl_ BK561 1⟩ (fun hHeld => ?_); clear hK K; refine norm_ (a' := ?_) ?_ ?_; rotate_left
                ·
                 show Act.put _ (some 77) _ = _; simp only [Act.put, List.setIfInBounds_toArray, List.set_cons_zero, List.set_cons_succ, i64_w, i32_w]; rfl
                refine pure_y 8 (some 78) laws_FnRangeOrder.b9_ (any_of HT_.out (by kernel_rfl)) (h := ?_)
                refine pure_y 9 (some 79) laws_FnRangeOrder.b10_ (any_of HT_.out (by kernel_rfl)) (h := ?_)
                refine pure_y 10 (some 80) laws_FnRangeOrder.b11_ (any_of HT_.out (by kernel_rfl)) (h := ?_)
                refine take_y 11 (some 81) laws_FnRangeOrder.b12_ rfl (take_ofW HT_.out HW_.out (by kernel_rfl)) hHeld (Or.inl ⟨by rfl, (by rintro w' ⟨s0, s1, s2, s3, s4, s5, s6, s7⟩; go_simp; with_reducible rfl)⟩) (h := ?_)
                refine take_y 12 (some 82) laws_FnRangeOrder.b13_ rfl (take_ofW HT_.out HW_.out (by kernel_rfl)) hHeld (Or.inl ⟨by rfl, (by rintro w' ⟨s0, s1, s2, s3, s4, s5, s6, s7⟩; go_simp; with_reducible rfl)⟩) (h := ?_)
                refine one_ (i := 13) (N := some 83) laws_FnRangeOrder.b14_ rfl rfl (one_of HT_.out (by kernel_rfl)) (by decide) (fun K hK => ?_); refine gs_ Tryd.func28 #[.agg #[.int .i64 t559, .int .i64 t560], .agg #[.int .i64 t541, .int .i64 t542]] (h := ?_); with_reducible refine (impl_RangeLeq.calls t559 t560 t541 t542 true _ ?side1 A112.out).mono ?_
                (case side1 => exact GL0.below HG0.out (sq_below7 HB.out GE545.out GE546.out GE554.out GE555.out GE558.out GE561.out GE564.out))
                rintro e w120 ⟨rfl, hb⟩; refine ⟨_, rfl, ?_⟩; replace BK545 := bb_ BK545 hb; replace BK546 := bb_ BK546 hb; replace BK554 := bb_ BK554 hb; replace BK555 := bb_ BK555 hb; replace BK558 := bb_ BK558 hb; replace BK561 := bb_ BK561 hb; replace BK564 := bb_ BK564 hb; replace HB := hb7_ HB hb GE545 GE546 GE554 GE555 GE558 GE561 GE564
                (try clear hb)
                (try clear hb2)
                (try clear hk)
                (try clear hi)
                refine hK.out _ _ ⟨cl_ BK545 0, cl_ BK545 1, cl_ BK558 0, cl_ BK558 1, cl_ BK546 0, cl_ BK546 1, cl_ BK561 0, cl_ BK561 1⟩ (fun hHeld => ?_); clear hK K; refine norm_ (a' := ?_) ?_ ?_; rotate_left
                ·
                 show Act.put _ (some 83) _ = _; simp only [Act.put, List.setIfInBounds_toArray, List.set_cons_zero, List.set_cons_succ, i64_w, i32_w]; rfl
                refine pure_y 14 (some 84) laws_FnRangeOrder.b15_ (any_of HT_.out (by kernel_rfl)) (h := ?_)
                refine pure_y 15 (some 85) laws_FnRangeOrder.b16_ (any_of HT_.out (by kernel_rfl)) (h := ?_)
                refine pure_y 16 (some 86) laws_FnRangeOrder.b17_ (any_of HT_.out (by kernel_rfl)) (h := ?_)
                refine take_y 17 (some 87) laws_FnRangeOrder.b18_ rfl (take_ofW HT_.out HW_.out (by kernel_rfl)) hHeld (Or.inl ⟨by rfl, (by rintro w' ⟨s0, s1, s2, s3, s4, s5, s6, s7⟩; go_simp; with_reducible rfl)⟩) (h := ?_)
                refine take_y 18 (some 88) laws_FnRangeOrder.b19_ rfl (take_ofW HT_.out HW_.out (by kernel_rfl)) hHeld (Or.inl ⟨by rfl, (by rintro w' ⟨s0, s1, s2, s3, s4, s5, s6, s7⟩; go_simp; with_reducible rfl)⟩) (h := ?_)
                refine one_ (i := 19) (N := some 89) laws_FnRangeOrder.b20_ rfl rfl (one_of HT_.out (by kernel_rfl)) (by decide) (fun K hK => ?_); refine gs_ Tryd.func28 #[.agg #[.int .i64 t559, .int .i64 t560], .agg #[.int .i64 t543, .int .i64 t544]] (h := ?_); with_reducible refine (impl_RangeLeq.calls t559 t560 t543 t544 true _ ?side1 A114.out).mono ?_
                (case side1 => exact GL0.below HG0.out (sq_below7 HB.out GE545.out GE546.out GE554.out GE555.out GE558.out GE561.out GE564.out))
                rintro e w121 ⟨rfl, hb⟩; refine ⟨_, rfl, ?_⟩; replace BK545 := bb_ BK545 hb; replace BK546 := bb_ BK546 hb; replace BK554 := bb_ BK554 hb; replace BK555 := bb_ BK555 hb; replace BK558 := bb_ BK558 hb; replace BK561 := bb_ BK561 hb; replace BK564 := bb_ BK564 hb; replace HB := hb7_ HB hb GE545 GE546 GE554 GE555 GE558 GE561 GE564
                (try clear hb)
                (try clear hb2)
                (try clear hk)
                (try clear hi)
                refine hK.out _ _ ⟨cl_ BK545 0, cl_ BK545 1, cl_ BK558 0, cl_ BK558 1, cl_ BK546 0, cl_ BK546 1, cl_ BK561 0, cl_ BK561 1⟩ (fun hHeld => ?_); clear hK K; refine norm_ (a' := ?_) ?_ ?_; rotate_left
                ·
                 show Act.put _ (some 89) _ = _; simp only [Act.put, List.setIfInBounds_toArray, List.set_cons_zero, List.set_cons_succ, i64_w, i32_w]; rfl
                refine pure_y 20 (some 90) laws_FnRangeOrder.b21_ (any_of HT_.out (by kernel_rfl)) (h := ?_)
                refine pure_y 21 (some 91) laws_FnRangeOrder.b22_ (any_of HT_.out (by kernel_rfl)) (h := ?_)
                refine pure_y 22 (some 92) laws_FnRangeOrder.b23_ (any_of HT_.out (by kernel_rfl)) (h := ?_)
                refine take_y 23 (some 93) laws_FnRangeOrder.b24_ rfl (take_ofW HT_.out HW_.out (by kernel_rfl)) hHeld (Or.inl ⟨by rfl, (by rintro w' ⟨s0, s1, s2, s3, s4, s5, s6, s7⟩; go_simp; with_reducible rfl)⟩) (h := ?_)
                refine take_y 24 (some 94) laws_FnRangeOrder.b25_ rfl (take_ofW HT_.out HW_.out (by kernel_rfl)) hHeld (Or.inl ⟨by rfl, (by rintro w' ⟨s0, s1, s2, s3, s4, s5, s6, s7⟩; go_simp; with_reducible rfl)⟩) (h := ?_)
                refine take_y 26 (some 96) #[true, true, true, true, true, true, true, true, true, true, true, true, true, true, true, true, true, true, true, true, true, true, true, true, true, false, true, false, false, false, false] rfl (take_ofW HT_.out HW_.out (by kernel_rfl)) hHeld (Or.inl ⟨by rfl, (by rintro w' ⟨s0, s1, s2, s3, s4, s5, s6, s7⟩; go_simp; with_reducible rfl)⟩) (h := ?_)
                refine take_y 27 (some 97) #[true, true, true, true, true, true, true, true, true, true, true, true, true, true, true, true, true, true, true, true, true, true, true, true, true, false, true, true, false, false, false] rfl (take_ofW HT_.out HW_.out (by kernel_rfl)) hHeld (Or.inl ⟨by rfl, (by rintro w' ⟨s0, s1, s2, s3, s4, s5, s6, s7⟩; go_simp; with_reducible rfl)⟩) (h := ?_)
                refine pure_y 28 (some 98) #[true, true, true, true, true, true, true, true, true, true, true, true, true, true, true, true, true, true, true, true, true, true, true, true, true, false, true, true, true, false, false] (any_of HT_.out (by kernel_rfl)) (h := ?_)
                refine one_ (i := 25) (N := some 95) laws_FnRangeOrder.b29_ rfl rfl (one_of HT_.out (by kernel_rfl)) (by decide) (fun K hK => ?_); refine gs_ Tryd.func28 #[.agg #[.int .i64 t541, .int .i64 t542], .agg #[.int .i64 t543, .int .i64 t544]] (h := ?_); with_reducible refine (impl_RangeLeq.calls t541 t542 t543 t544 t577 _ ?side1 A116.out).mono ?_
                (case side1 => exact GL0.below HG0.out (sq_below7 HB.out GE545.out GE546.out GE554.out GE555.out GE558.out GE561.out GE564.out))
                rintro e w122 ⟨rfl, hb⟩; refine ⟨_, rfl, ?_⟩; replace BK545 := bb_ BK545 hb; replace BK546 := bb_ BK546 hb; replace BK554 := bb_ BK554 hb; replace BK555 := bb_ BK555 hb; replace BK558 := bb_ BK558 hb; replace BK561 := bb_ BK561 hb; replace BK564 := bb_ BK564 hb; replace HB := hb7_ HB hb GE545 GE546 GE554 GE555 GE558 GE561 GE564
                (try clear hb)
                (try clear hb2)
                (try clear hk)
                (try clear hi)
                refine hK.out _ _ ⟨cl_ BK545 0, cl_ BK545 1, cl_ BK558 0, cl_ BK558 1, cl_ BK546 0, cl_ BK546 1, cl_ BK561 0, cl_ BK561 1⟩ (fun hHeld => ?_); clear hK K; refine norm_ (a' := ?_) ?_ ?_; rotate_left
                ·
                 show Act.put _ (some 95) _ = _; simp only [Act.put, List.setIfInBounds_toArray, List.set_cons_zero, List.set_cons_succ, i64_w, i32_w]; rfl
                refine pure_y 29 (some 99) laws_FnRangeOrder.b30_ (any_of HT_.out (by kernel_rfl)) (h := ?_)
                refine pure_y 30 (some 100) laws_FnRangeOrder.b31_ (any_of HT_.out (by kernel_rfl)) (h := ?_)
                refine done_ (done_of HT_.out (by kernel_rfl)) ?_
                try go_wp2
                go_meet
                case rel => exact ⟨_, ((t577 != (t556 == t543 && (t557 == t544)))), (by first | rfl | (simp; done) | (simp [*]; done)), H', ⟨by have := HJ2.out; have := HJ12.out; have := HJ78.out; first | omega | exact Nat.le_refl _⟩, bk_ BK545, bk_ BK546, bk_ BK554, bk_ BK555, bk_ BK558, bk_ BK561, bk_ BK564, ⟨by repeat (first | (with_reducible first | exact HB.out | apply below_alloc | apply pw_below_drewN | apply below_drew1 | refine below_set ?_ GE545.out | refine below_set ?_ GE546.out | refine below_set ?_ GE554.out | refine below_set ?_ GE555.out | refine below_set ?_ GE558.out | refine below_set ?_ GE561.out | refine below_set ?_ GE564.out) | exact HB.out)⟩⟩
              ·
               replace c115 := Bool.eq_false_iff.mpr c115; subst c115; have H1 : (laws_FnRangeOrder.j3 kj78 true t541 t542 t543 t544 t547 t548 t556 t557 t562 t563) = some r := by rw [if_neg (show ¬ (false = true) by decide)] at H; exact H
               clear H; have H := H1; clear H1
               as_aux_lemma =>
                have H' := Aside0.mk H; clear H
                try go_wp2
                replace BK545 := bd_ BK545; replace BK546 := bd_ BK546; replace BK554 := bd_ BK554; replace BK555 := bd_ BK555; replace BK558 := bd_ BK558; replace BK561 := bd_ BK561; replace BK564 := bd_ BK564; replace HB := hd_ HB; refine start_ (n := 31) (S := fun w' => w'.cell? ⟨gb545, 0, none⟩ = some (.int .i64 t541) ∧ w'.cell? ⟨gb545, 1, none⟩ = some (.int .i64 t542) ∧ w'.cell? ⟨gb558, 0, none⟩ = some (.int .i64 t556) ∧ w'.cell? ⟨gb558, 1, none⟩ = some (.int .i64 t557) ∧ w'.cell? ⟨gb546, 0, none⟩ = some (.int .i64 t543) ∧ w'.cell? ⟨gb546, 1, none⟩ = some (.int .i64 t544) ∧ w'.cell? ⟨gb561, 0, none⟩ = some (.int .i64 t559) ∧ w'.cell? ⟨gb561, 1, none⟩ = some (.int .i64 t560)) (ds := []) laws_FnRangeOrder.b0_ (by kernel_rfl) rfl rfl ⟨cl_ BK545 0, cl_ BK545 1, cl_ BK558 0, cl_ BK558 1, cl_ BK546 0, cl_ BK546 1, cl_ BK561 0, cl_ BK561 1⟩ (fun hHeld => ?_); refine with_tabW laws_FnRangeOrder.tab12 laws_FnRangeOrder.bits12 (fun HT_ HW_ => ?_); generalize wc.drew = w123 at BK545 BK546 BK554 BK555 BK558 BK561 BK564 HB hHeld ⊢; refine take_y 0 (some 70) laws_FnRangeOrder.b1_ rfl (take_ofW HT_.out HW_.out (by kernel_rfl)) hHeld (Or.inl ⟨by rfl, (by rintro w' ⟨s0, s1, s2, s3, s4, s5, s6, s7⟩; go_simp; with_reducible rfl)⟩) (h := ?_)
                refine take_y 1 (some 71) laws_FnRangeOrder.b2_ rfl (take_ofW HT_.out HW_.out (by kernel_rfl)) hHeld (Or.inl ⟨by rfl, (by rintro w' ⟨s0, s1, s2, s3, s4, s5, s6, s7⟩; go_simp; with_reducible rfl)⟩) (h := ?_)
                refine one_ (i := 2) (N := some 72) laws_FnRangeOrder.b3_ rfl rfl (one_of HT_.out (by kernel_rfl)) (by decide) (fun K hK => ?_); refine gs_ Tryd.func28 #[.agg #[.int .i64 t541, .int .i64 t542], .agg #[.int .i64 t556, .int .i64 t557]] (h := ?_); with_reducible refine (impl_RangeLeq.calls t541 t542 t556 t557 true _ ?side1 A108.out).mono ?_
                (case side1 => exact GL0.below HG0.out (sq_below7 HB.out GE545.out GE546.out GE554.out GE555.out GE558.out GE561.out GE564.out))
                rintro e w124 ⟨rfl, hb⟩; refine ⟨_, rfl, ?_⟩; replace BK545 := bb_ BK545 hb; replace BK546 := bb_ BK546 hb; replace BK554 := bb_ BK554 hb; replace BK555 := bb_ BK555 hb; replace BK558 := bb_ BK558 hb; replace BK561 := bb_ BK561 hb; replace BK564 := bb_ BK564 hb; replace HB := hb7_ HB hb GE545 GE546 GE554 GE555 GE558 GE561 GE564
                (try clear hb)
                (try clear hb2)
                (try clear hk)
                (try clear hi)
                refine hK.out _ _ ⟨cl_ BK545 0, cl_ BK545 1, cl_ BK558 0, cl_ BK558 1, cl_ BK546 0, cl_ BK546 1, cl_ BK561 0, cl_ BK561 1⟩ (fun hHeld => ?_); clear hK K; refine norm_ (a' := ?_) ?_ ?_; rotate_left
                ·
                 show Act.put _ (some 72) _ = _; simp only [Act.put, List.setIfInBounds_toArray, List.set_cons_zero, List.set_cons_succ, i64_w, i32_w]; rfl
                refine pure_y 3 (some 73) laws_FnRangeOrder.b4_ (any_of HT_.out (by kernel_rfl)) (h := ?_)
                refine pure_y 4 (some 74) laws_FnRangeOrder.b5_ (any_of HT_.out (by kernel_rfl)) (h := ?_)
                refine take_y 5 (some 75) laws_FnRangeOrder.b6_ rfl (take_ofW HT_.out HW_.out (by kernel_rfl)) hHeld (Or.inl ⟨by rfl, (by rintro w' ⟨s0, s1, s2, s3, s4, s5, s6, s7⟩; go_simp; with_reducible rfl)⟩) (h := ?_)
                refine take_y 6 (some 76) laws_FnRangeOrder.b7_ rfl (take_ofW HT_.out HW_.out (by kernel_rfl)) hHeld (Or.inl ⟨by rfl, (by rintro w' ⟨s0, s1, s2, s3, s4, s5, s6, s7⟩; go_simp; with_reducible rfl)⟩) (h := ?_)
                refine one_ (i := 7) (N := some 77) laws_FnRangeOrder.b8_ rfl rfl (one_of HT_.out (by kernel_rfl)) (by decide) (fun K hK => ?_); refine gs_ Tryd.func28 #[.agg #[.int .i64 t543, .int .i64 t544], .agg #[.int .i64 t556, .int .i64 t557]] (h := ?_); with_reducible refine (impl_RangeLeq.calls t543 t544 t556 t557 true _ ?side1 A110.out).mono ?_
                (case side1 => exact GL0.below HG0.out (sq_below7 HB.out GE545.out GE546.out GE554.out GE555.out GE558.out GE561.out GE564.out))
                rintro e w125 ⟨rfl, hb⟩; refine ⟨_, rfl, ?_⟩; replace BK545 := bb_ BK545 hb; replace BK546 := bb_ BK546 hb; replace BK554 := bb_ BK554 hb; replace BK555 := bb_ BK555 hb; replace BK558 := bb_ BK558 hb; replace BK561 := bb_ BK561 hb; replace BK564 := bb_ BK564 hb; replace HB := hb7_ HB hb GE545 GE546 GE554 GE555 GE558 GE561 GE564
                (try clear hb)
                (try clear hb2)
                (try clear hk)
                (try clear hi)
                refine hK.out _ _ ⟨cl_ BK545 0, cl_ BK545 1, cl_ BK558 0, cl_ BK558 1, cl_ BK546 0, cl_ BK546 1, cl_ BK561 0, cl_ BK561 1⟩ (fun hHeld => ?_); clear hK K; refine norm_ (a' := ?_) ?_ ?_; rotate_left
                ·
                 show Act.put _ (some 77) _ = _; simp only [Act.put, List.setIfInBounds_toArray, List.set_cons_zero, List.set_cons_succ, i64_w, i32_w]; rfl
                refine pure_y 8 (some 78) laws_FnRangeOrder.b9_ (any_of HT_.out (by kernel_rfl)) (h := ?_)
                refine pure_y 9 (some 79) laws_FnRangeOrder.b10_ (any_of HT_.out (by kernel_rfl)) (h := ?_)
                refine pure_y 10 (some 80) laws_FnRangeOrder.b11_ (any_of HT_.out (by kernel_rfl)) (h := ?_)
                refine take_y 11 (some 81) laws_FnRangeOrder.b12_ rfl (take_ofW HT_.out HW_.out (by kernel_rfl)) hHeld (Or.inl ⟨by rfl, (by rintro w' ⟨s0, s1, s2, s3, s4, s5, s6, s7⟩; go_simp; with_reducible rfl)⟩) (h := ?_)
                refine take_y 12 (some 82) laws_FnRangeOrder.b13_ rfl (take_ofW HT_.out HW_.out (by kernel_rfl)) hHeld (Or.inl ⟨by rfl, (by rintro w' ⟨s0, s1, s2, s3, s4, s5, s6, s7⟩; go_simp; with_reducible rfl)⟩) (h := ?_)
                refine one_ (i := 13) (N := some 83) laws_FnRangeOrder.b14_ rfl rfl (one_of HT_.out (by kernel_rfl)) (by decide) (fun K hK => ?_); refine gs_ Tryd.func28 #[.agg #[.int .i64 t559, .int .i64 t560], .agg #[.int .i64 t541, .int .i64 t542]] (h := ?_); with_reducible refine (impl_RangeLeq.calls t559 t560 t541 t542 true _ ?side1 A112.out).mono ?_
                (case side1 => exact GL0.below HG0.out (sq_below7 HB.out GE545.out GE546.out GE554.out GE555.out GE558.out GE561.out GE564.out))
                rintro e w126 ⟨rfl, hb⟩; refine ⟨_, rfl, ?_⟩; replace BK545 := bb_ BK545 hb; replace BK546 := bb_ BK546 hb; replace BK554 := bb_ BK554 hb; replace BK555 := bb_ BK555 hb; replace BK558 := bb_ BK558 hb; replace BK561 := bb_ BK561 hb; replace BK564 := bb_ BK564 hb; replace HB := hb7_ HB hb GE545 GE546 GE554 GE555 GE558 GE561 GE564
                (try clear hb)
                (try clear hb2)
                (try clear hk)
                (try clear hi)
                refine hK.out _ _ ⟨cl_ BK545 0, cl_ BK545 1, cl_ BK558 0, cl_ BK558 1, cl_ BK546 0, cl_ BK546 1, cl_ BK561 0, cl_ BK561 1⟩ (fun hHeld => ?_); clear hK K; refine norm_ (a' := ?_) ?_ ?_; rotate_left
                ·
                 show Act.put _ (some 83) _ = _; simp only [Act.put, List.setIfInBounds_toArray, List.set_cons_zero, List.set_cons_succ, i64_w, i32_w]; rfl
                refine pure_y 14 (some 84) laws_FnRangeOrder.b15_ (any_of HT_.out (by kernel_rfl)) (h := ?_)
                refine pure_y 15 (some 85) laws_FnRangeOrder.b16_ (any_of HT_.out (by kernel_rfl)) (h := ?_)
                refine pure_y 16 (some 86) laws_FnRangeOrder.b17_ (any_of HT_.out (by kernel_rfl)) (h := ?_)
                refine take_y 17 (some 87) laws_FnRangeOrder.b18_ rfl (take_ofW HT_.out HW_.out (by kernel_rfl)) hHeld (Or.inl ⟨by rfl, (by rintro w' ⟨s0, s1, s2, s3, s4, s5, s6, s7⟩; go_simp; with_reducible rfl)⟩) (h := ?_)
                refine take_y 18 (some 88) laws_FnRangeOrder.b19_ rfl (take_ofW HT_.out HW_.out (by kernel_rfl)) hHeld (Or.inl ⟨by rfl, (by rintro w' ⟨s0, s1, s2, s3, s4, s5, s6, s7⟩; go_simp; with_reducible rfl)⟩) (h := ?_)
                refine one_ (i := 19) (N := some 89) laws_FnRangeOrder.b20_ rfl rfl (one_of HT_.out (by kernel_rfl)) (by decide) (fun K hK => ?_); refine gs_ Tryd.func28 #[.agg #[.int .i64 t559, .int .i64 t560], .agg #[.int .i64 t543, .int .i64 t544]] (h := ?_); with_reducible refine (impl_RangeLeq.calls t559 t560 t543 t544 false _ ?side1 A114.out).mono ?_
                (case side1 => exact GL0.below HG0.out (sq_below7 HB.out GE545.out GE546.out GE554.out GE555.out GE558.out GE561.out GE564.out))
                rintro e w127 ⟨rfl, hb⟩; refine ⟨_, rfl, ?_⟩; replace BK545 := bb_ BK545 hb; replace BK546 := bb_ BK546 hb; replace BK554 := bb_ BK554 hb; replace BK555 := bb_ BK555 hb; replace BK558 := bb_ BK558 hb; replace BK561 := bb_ BK561 hb; replace BK564 := bb_ BK564 hb; replace HB := hb7_ HB hb GE545 GE546 GE554 GE555 GE558 GE561 GE564
                (try clear hb)
                (try clear hb2)
                (try clear hk)
                (try clear hi)
                refine hK.out _ _ ⟨cl_ BK545 0, cl_ BK545 1, cl_ BK558 0, cl_ BK558 1, cl_ BK546 0, cl_ BK546 1, cl_ BK561 0, cl_ BK561 1⟩ (fun hHeld => ?_); clear hK K; refine norm_ (a' := ?_) ?_ ?_; rotate_left
                ·
                 show Act.put _ (some 89) _ = _; simp only [Act.put, List.setIfInBounds_toArray, List.set_cons_zero, List.set_cons_succ, i64_w, i32_w]; rfl
                refine pure_y 20 (some 90) laws_FnRangeOrder.b21_ (any_of HT_.out (by kernel_rfl)) (h := ?_)
                refine pure_y 21 (some 91) laws_FnRangeOrder.b22_ (any_of HT_.out (by kernel_rfl)) (h := ?_)
                refine pure_y 22 (some 92) laws_FnRangeOrder.b23_ (any_of HT_.out (by kernel_rfl)) (h := ?_)
                refine pure_n 23 (some 93) laws_FnRangeOrder.b24_ (any_of HT_.out (by kernel_rfl)) (h := ?_)
                refine pure_n 24 (some 94) laws_FnRangeOrder.b25_ (any_of HT_.out (by kernel_rfl)) (h := ?_)
                refine pure_n 25 (some 95) laws_FnRangeOrder.b26_ (any_of HT_.out (by kernel_rfl)) (h := ?_)
                refine pure_n 26 (some 96) laws_FnRangeOrder.b27_ (any_of HT_.out (by kernel_rfl)) (h := ?_)
                refine pure_n 27 (some 97) laws_FnRangeOrder.b28_ (any_of HT_.out (by kernel_rfl)) (h := ?_)
                refine pure_n 28 (some 98) laws_FnRangeOrder.b29_ (any_of HT_.out (by kernel_rfl)) (h := ?_)
                refine pure_n 29 (some 99) laws_FnRangeOrder.b30_ (any_of HT_.out (by kernel_rfl)) (h := ?_)
                refine pure_y 30 (some 100) laws_FnRangeOrder.b31_ (any_of HT_.out (by kernel_rfl)) (h := ?_)
                refine done_ (done_of HT_.out (by kernel_rfl)) ?_
                try go_wp2
                go_meet
                case rel => exact ⟨_, (true), (by first | rfl | (simp; done) | (simp [*]; done)), H', ⟨by have := HJ2.out; have := HJ12.out; have := HJ78.out; first | omega | exact Nat.le_refl _⟩, bk_ BK545, bk_ BK546, bk_ BK554, bk_ BK555, bk_ BK558, bk_ BK561, bk_ BK564, ⟨by repeat (first | (with_reducible first | exact HB.out | apply below_alloc | apply pw_below_drewN | apply below_drew1 | refine below_set ?_ GE545.out | refine below_set ?_ GE546.out | refine below_set ?_ GE554.out | refine below_set ?_ GE555.out | refine below_set ?_ GE558.out | refine below_set ?_ GE561.out | refine below_set ?_ GE564.out) | exact HB.out)⟩⟩
             ·
              replace c113 := Bool.eq_false_iff.mpr c113; subst c113; have H1 : (laws_FnRangeOrder.j3 kj78 true t541 t542 t543 t544 t547 t548 t556 t557 t562 t563) = some r := by rw [if_neg (show ¬ (false = true) by decide)] at H; exact H
              clear H; have H := H1; clear H1
              as_aux_lemma =>
               have H' := Aside0.mk H; clear H
               try go_wp2
               replace BK545 := bd_ BK545; replace BK546 := bd_ BK546; replace BK554 := bd_ BK554; replace BK555 := bd_ BK555; replace BK558 := bd_ BK558; replace BK561 := bd_ BK561; replace BK564 := bd_ BK564; replace HB := hd_ HB; refine start_ (n := 31) (S := fun w' => w'.cell? ⟨gb545, 0, none⟩ = some (.int .i64 t541) ∧ w'.cell? ⟨gb545, 1, none⟩ = some (.int .i64 t542) ∧ w'.cell? ⟨gb558, 0, none⟩ = some (.int .i64 t556) ∧ w'.cell? ⟨gb558, 1, none⟩ = some (.int .i64 t557) ∧ w'.cell? ⟨gb546, 0, none⟩ = some (.int .i64 t543) ∧ w'.cell? ⟨gb546, 1, none⟩ = some (.int .i64 t544) ∧ w'.cell? ⟨gb561, 0, none⟩ = some (.int .i64 t559) ∧ w'.cell? ⟨gb561, 1, none⟩ = some (.int .i64 t560)) (ds := []) laws_FnRangeOrder.b0_ (by kernel_rfl) rfl rfl ⟨cl_ BK545 0, cl_ BK545 1, cl_ BK558 0, cl_ BK558 1, cl_ BK546 0, cl_ BK546 1, cl_ BK561 0, cl_ BK561 1⟩ (fun hHeld => ?_); refine with_tabW laws_FnRangeOrder.tab12 laws_FnRangeOrder.bits12 (fun HT_ HW_ => ?_); generalize wc.drew = w128 at BK545 BK546 BK554 BK555 BK558 BK561 BK564 HB hHeld ⊢; refine take_y 0 (some 70) laws_FnRangeOrder.b1_ rfl (take_ofW HT_.out HW_.out (by kernel_rfl)) hHeld (Or.inl ⟨by rfl, (by rintro w' ⟨s0, s1, s2, s3, s4, s5, s6, s7⟩; go_simp; with_reducible rfl)⟩) (h := ?_)
               refine take_y 1 (some 71) laws_FnRangeOrder.b2_ rfl (take_ofW HT_.out HW_.out (by kernel_rfl)) hHeld (Or.inl ⟨by rfl, (by rintro w' ⟨s0, s1, s2, s3, s4, s5, s6, s7⟩; go_simp; with_reducible rfl)⟩) (h := ?_)
               refine one_ (i := 2) (N := some 72) laws_FnRangeOrder.b3_ rfl rfl (one_of HT_.out (by kernel_rfl)) (by decide) (fun K hK => ?_); refine gs_ Tryd.func28 #[.agg #[.int .i64 t541, .int .i64 t542], .agg #[.int .i64 t556, .int .i64 t557]] (h := ?_); with_reducible refine (impl_RangeLeq.calls t541 t542 t556 t557 true _ ?side1 A108.out).mono ?_
               (case side1 => exact GL0.below HG0.out (sq_below7 HB.out GE545.out GE546.out GE554.out GE555.out GE558.out GE561.out GE564.out))
               rintro e w129 ⟨rfl, hb⟩; refine ⟨_, rfl, ?_⟩; replace BK545 := bb_ BK545 hb; replace BK546 := bb_ BK546 hb; replace BK554 := bb_ BK554 hb; replace BK555 := bb_ BK555 hb; replace BK558 := bb_ BK558 hb; replace BK561 := bb_ BK561 hb; replace BK564 := bb_ BK564 hb; replace HB := hb7_ HB hb GE545 GE546 GE554 GE555 GE558 GE561 GE564
               (try clear hb)
               (try clear hb2)
               (try clear hk)
               (try clear hi)
               refine hK.out _ _ ⟨cl_ BK545 0, cl_ BK545 1, cl_ BK558 0, cl_ BK558 1, cl_ BK546 0, cl_ BK546 1, cl_ BK561 0, cl_ BK561 1⟩ (fun hHeld => ?_); clear hK K; refine norm_ (a' := ?_) ?_ ?_; rotate_left
               ·
                show Act.put _ (some 72) _ = _; simp only [Act.put, List.setIfInBounds_toArray, List.set_cons_zero, List.set_cons_succ, i64_w, i32_w]; rfl
               refine pure_y 3 (some 73) laws_FnRangeOrder.b4_ (any_of HT_.out (by kernel_rfl)) (h := ?_)
               refine pure_y 4 (some 74) laws_FnRangeOrder.b5_ (any_of HT_.out (by kernel_rfl)) (h := ?_)
               refine take_y 5 (some 75) laws_FnRangeOrder.b6_ rfl (take_ofW HT_.out HW_.out (by kernel_rfl)) hHeld (Or.inl ⟨by rfl, (by rintro w' ⟨s0, s1, s2, s3, s4, s5, s6, s7⟩; go_simp; with_reducible rfl)⟩) (h := ?_)
               refine take_y 6 (some 76) laws_FnRangeOrder.b7_ rfl (take_ofW HT_.out HW_.out (by kernel_rfl)) hHeld (Or.inl ⟨by rfl, (by rintro w' ⟨s0, s1, s2, s3, s4, s5, s6, s7⟩; go_simp; with_reducible rfl)⟩) (h := ?_)
               refine one_ (i := 7) (N := some 77) laws_FnRangeOrder.b8_ rfl rfl (one_of HT_.out (by kernel_rfl)) (by decide) (fun K hK => ?_); refine gs_ Tryd.func28 #[.agg #[.int .i64 t543, .int .i64 t544], .agg #[.int .i64 t556, .int .i64 t557]] (h := ?_); with_reducible refine (impl_RangeLeq.calls t543 t544 t556 t557 true _ ?side1 A110.out).mono ?_
               (case side1 => exact GL0.below HG0.out (sq_below7 HB.out GE545.out GE546.out GE554.out GE555.out GE558.out GE561.out GE564.out))
               rintro e w130 ⟨rfl, hb⟩; refine ⟨_, rfl, ?_⟩; replace BK545 := bb_ BK545 hb; replace BK546 := bb_ BK546 hb; replace BK554 := bb_ BK554 hb; replace BK555 := bb_ BK555 hb; replace BK558 := bb_ BK558 hb; replace BK561 := bb_ BK561 hb; replace BK564 := bb_ BK564 hb; replace HB := hb7_ HB hb GE545 GE546 GE554 GE555 GE558 GE561 GE564
               (try clear hb)
               (try clear hb2)
               (try clear hk)
               (try clear hi)
               refine hK.out _ _ ⟨cl_ BK545 0, cl_ BK545 1, cl_ BK558 0, cl_ BK558 1, cl_ BK546 0, cl_ BK546 1, cl_ BK561 0, cl_ BK561 1⟩ (fun hHeld => ?_); clear hK K; refine norm_ (a' := ?_) ?_ ?_; rotate_left
               ·
                show Act.put _ (some 77) _ = _; simp only [Act.put, List.setIfInBounds_toArray, List.set_cons_zero, List.set_cons_succ, i64_w, i32_w]; rfl
               refine pure_y 8 (some 78) laws_FnRangeOrder.b9_ (any_of HT_.out (by kernel_rfl)) (h := ?_)
               refine pure_y 9 (some 79) laws_FnRangeOrder.b10_ (any_of HT_.out (by kernel_rfl)) (h := ?_)
               refine pure_y 10 (some 80) laws_FnRangeOrder.b11_ (any_of HT_.out (by kernel_rfl)) (h := ?_)
               refine take_y 11 (some 81) laws_FnRangeOrder.b12_ rfl (take_ofW HT_.out HW_.out (by kernel_rfl)) hHeld (Or.inl ⟨by rfl, (by rintro w' ⟨s0, s1, s2, s3, s4, s5, s6, s7⟩; go_simp; with_reducible rfl)⟩) (h := ?_)
               refine take_y 12 (some 82) laws_FnRangeOrder.b13_ rfl (take_ofW HT_.out HW_.out (by kernel_rfl)) hHeld (Or.inl ⟨by rfl, (by rintro w' ⟨s0, s1, s2, s3, s4, s5, s6, s7⟩; go_simp; with_reducible rfl)⟩) (h := ?_)
               refine one_ (i := 13) (N := some 83) laws_FnRangeOrder.b14_ rfl rfl (one_of HT_.out (by kernel_rfl)) (by decide) (fun K hK => ?_); refine gs_ Tryd.func28 #[.agg #[.int .i64 t559, .int .i64 t560], .agg #[.int .i64 t541, .int .i64 t542]] (h := ?_); with_reducible refine (impl_RangeLeq.calls t559 t560 t541 t542 false _ ?side1 A112.out).mono ?_
               (case side1 => exact GL0.below HG0.out (sq_below7 HB.out GE545.out GE546.out GE554.out GE555.out GE558.out GE561.out GE564.out))
               rintro e w131 ⟨rfl, hb⟩; refine ⟨_, rfl, ?_⟩; replace BK545 := bb_ BK545 hb; replace BK546 := bb_ BK546 hb; replace BK554 := bb_ BK554 hb; replace BK555 := bb_ BK555 hb; replace BK558 := bb_ BK558 hb; replace BK561 := bb_ BK561 hb; replace BK564 := bb_ BK564 hb; replace HB := hb7_ HB hb GE545 GE546 GE554 GE555 GE558 GE561 GE564
               (try clear hb)
               (try clear hb2)
               (try clear hk)
               (try clear hi)
               refine hK.out _ _ ⟨cl_ BK545 0, cl_ BK545 1, cl_ BK558 0, cl_ BK558 1, cl_ BK546 0, cl_ BK546 1, cl_ BK561 0, cl_ BK561 1⟩ (fun hHeld => ?_); clear hK K; refine norm_ (a' := ?_) ?_ ?_; rotate_left
               ·
                show Act.put _ (some 83) _ = _; simp only [Act.put, List.setIfInBounds_toArray, List.set_cons_zero, List.set_cons_succ, i64_w, i32_w]; rfl
               refine pure_y 14 (some 84) laws_FnRangeOrder.b15_ (any_of HT_.out (by kernel_rfl)) (h := ?_)
               refine pure_y 15 (some 85) laws_FnRangeOrder.b16_ (any_of HT_.out (by kernel_rfl)) (h := ?_)
               refine pure_y 16 (some 86) laws_FnRangeOrder.b17_ (any_of HT_.out (by kernel_rfl)) (h := ?_)
               refine pure_n 17 (some 87) laws_FnRangeOrder.b18_ (any_of HT_.out (by kernel_rfl)) (h := ?_)
               refine pure_n 18 (some 88) laws_FnRangeOrder.b19_ (any_of HT_.out (by kernel_rfl)) (h := ?_)
               refine pure_n 19 (some 89) laws_FnRangeOrder.b20_ (any_of HT_.out (by kernel_rfl)) (h := ?_)
               refine pure_n 20 (some 90) laws_FnRangeOrder.b21_ (any_of HT_.out (by kernel_rfl)) (h := ?_)
               refine pure_y 21 (some 91) laws_FnRangeOrder.b22_ (any_of HT_.out (by kernel_rfl)) (h := ?_)
               refine pure_y 22 (some 92) laws_FnRangeOrder.b23_ (any_of HT_.out (by kernel_rfl)) (h := ?_)
               refine pure_n 23 (some 93) laws_FnRangeOrder.b24_ (any_of HT_.out (by kernel_rfl)) (h := ?_)
               refine pure_n 24 (some 94) laws_FnRangeOrder.b25_ (any_of HT_.out (by kernel_rfl)) (h := ?_)
               refine pure_n 25 (some 95) laws_FnRangeOrder.b26_ (any_of HT_.out (by kernel_rfl)) (h := ?_)
               refine pure_n 26 (some 96) laws_FnRangeOrder.b27_ (any_of HT_.out (by kernel_rfl)) (h := ?_)
               refine pure_n 27 (some 97) laws_FnRangeOrder.b28_ (any_of HT_.out (by kernel_rfl)) (h := ?_)
               refine pure_n 28 (some 98) laws_FnRangeOrder.b29_ (any_of HT_.out (by kernel_rfl)) (h := ?_)
               refine pure_n 29 (some 99) laws_FnRangeOrder.b30_ (any_of HT_.out (by kernel_rfl)) (h := ?_)
               refine pure_y 30 (some 100) laws_FnRangeOrder.b31_ (any_of HT_.out (by kernel_rfl)) (h := ?_)
               refine done_ (done_of HT_.out (by kernel_rfl)) ?_
               try go_wp2
               go_meet
               case rel => exact ⟨_, (true), (by first | rfl | (simp; done) | (simp [*]; done)), H', ⟨by have := HJ2.out; have := HJ12.out; have := HJ78.out; first | omega | exact Nat.le_refl _⟩, bk_ BK545, bk_ BK546, bk_ BK554, bk_ BK555, bk_ BK558, bk_ BK561, bk_ BK564, ⟨by repeat (first | (with_reducible first | exact HB.out | apply below_alloc | apply pw_below_drewN | apply below_drew1 | refine below_set ?_ GE545.out | refine below_set ?_ GE546.out | refine below_set ?_ GE554.out | refine below_set ?_ GE555.out | refine below_set ?_ GE558.out | refine below_set ?_ GE561.out | refine below_set ?_ GE564.out) | exact HB.out)⟩⟩
            ·
             replace c111 := Bool.eq_false_iff.mpr c111; subst c111; have H1 : (laws_FnRangeOrder.j3 kj78 true t541 t542 t543 t544 t547 t548 t556 t557 t562 t563) = some r := by rw [if_neg (show ¬ (false = true) by decide)] at H; exact H
             clear H; have H := H1; clear H1
             as_aux_lemma =>
              have H' := Aside0.mk H; clear H
              try go_wp2
              replace BK545 := bd_ BK545; replace BK546 := bd_ BK546; replace BK554 := bd_ BK554; replace BK555 := bd_ BK555; replace BK558 := bd_ BK558; replace BK561 := bd_ BK561; replace BK564 := bd_ BK564; replace HB := hd_ HB; refine start_ (n := 31) (S := fun w' => w'.cell? ⟨gb545, 0, none⟩ = some (.int .i64 t541) ∧ w'.cell? ⟨gb545, 1, none⟩ = some (.int .i64 t542) ∧ w'.cell? ⟨gb558, 0, none⟩ = some (.int .i64 t556) ∧ w'.cell? ⟨gb558, 1, none⟩ = some (.int .i64 t557) ∧ w'.cell? ⟨gb546, 0, none⟩ = some (.int .i64 t543) ∧ w'.cell? ⟨gb546, 1, none⟩ = some (.int .i64 t544)) (ds := []) laws_FnRangeOrder.b0_ (by kernel_rfl) rfl rfl ⟨cl_ BK545 0, cl_ BK545 1, cl_ BK558 0, cl_ BK558 1, cl_ BK546 0, cl_ BK546 1⟩ (fun hHeld => ?_); refine with_tabW laws_FnRangeOrder.tab12 laws_FnRangeOrder.bits12 (fun HT_ HW_ => ?_); generalize wc.drew = w132 at BK545 BK546 BK554 BK555 BK558 BK561 BK564 HB hHeld ⊢; refine take_y 0 (some 70) laws_FnRangeOrder.b1_ rfl (take_ofW HT_.out HW_.out (by kernel_rfl)) hHeld (Or.inl ⟨by rfl, (by rintro w' ⟨s0, s1, s2, s3, s4, s5⟩; go_simp; with_reducible rfl)⟩) (h := ?_)
              refine take_y 1 (some 71) laws_FnRangeOrder.b2_ rfl (take_ofW HT_.out HW_.out (by kernel_rfl)) hHeld (Or.inl ⟨by rfl, (by rintro w' ⟨s0, s1, s2, s3, s4, s5⟩; go_simp; with_reducible rfl)⟩) (h := ?_)
              refine one_ (i := 2) (N := some 72) laws_FnRangeOrder.b3_ rfl rfl (one_of HT_.out (by kernel_rfl)) (by decide) (fun K hK => ?_); refine gs_ Tryd.func28 #[.agg #[.int .i64 t541, .int .i64 t542], .agg #[.int .i64 t556, .int .i64 t557]] (h := ?_); with_reducible refine (impl_RangeLeq.calls t541 t542 t556 t557 true _ ?side1 A108.out).mono ?_
              (case side1 => exact GL0.below HG0.out (sq_below7 HB.out GE545.out GE546.out GE554.out GE555.out GE558.out GE561.out GE564.out))
              rintro e w133 ⟨rfl, hb⟩; refine ⟨_, rfl, ?_⟩; replace BK545 := bb_ BK545 hb; replace BK546 := bb_ BK546 hb; replace BK554 := bb_ BK554 hb; replace BK555 := bb_ BK555 hb; replace BK558 := bb_ BK558 hb; replace BK561 := bb_ BK561 hb; replace BK564 := bb_ BK564 hb; replace HB := hb7_ HB hb GE545 GE546 GE554 GE555 GE558 GE561 GE564
              (try clear hb)
              (try clear hb2)
              (try clear hk)
              (try clear hi)
              refine hK.out _ _ ⟨cl_ BK545 0, cl_ BK545 1, cl_ BK558 0, cl_ BK558 1, cl_ BK546 0, cl_ BK546 1⟩ (fun hHeld => ?_); clear hK K; refine norm_ (a' := ?_) ?_ ?_; rotate_left
              ·
               show Act.put _ (some 72) _ = _; simp only [Act.put, List.setIfInBounds_toArray, List.set_cons_zero, List.set_cons_succ, i64_w, i32_w]; rfl
              refine pure_y 3 (some 73) laws_FnRangeOrder.b4_ (any_of HT_.out (by kernel_rfl)) (h := ?_)
              refine pure_y 4 (some 74) laws_FnRangeOrder.b5_ (any_of HT_.out (by kernel_rfl)) (h := ?_)
              refine take_y 5 (some 75) laws_FnRangeOrder.b6_ rfl (take_ofW HT_.out HW_.out (by kernel_rfl)) hHeld (Or.inl ⟨by rfl, (by rintro w' ⟨s0, s1, s2, s3, s4, s5⟩; go_simp; with_reducible rfl)⟩) (h := ?_)
              refine take_y 6 (some 76) laws_FnRangeOrder.b7_ rfl (take_ofW HT_.out HW_.out (by kernel_rfl)) hHeld (Or.inl ⟨by rfl, (by rintro w' ⟨s0, s1, s2, s3, s4, s5⟩; go_simp; with_reducible rfl)⟩) (h := ?_)
              refine one_ (i := 7) (N := some 77) laws_FnRangeOrder.b8_ rfl rfl (one_of HT_.out (by kernel_rfl)) (by decide) (fun K hK => ?_); refine gs_ Tryd.func28 #[.agg #[.int .i64 t543, .int .i64 t544], .agg #[.int .i64 t556, .int .i64 t557]] (h := ?_); with_reducible refine (impl_RangeLeq.calls t543 t544 t556 t557 false _ ?side1 A110.out).mono ?_
              (case side1 => exact GL0.below HG0.out (sq_below7 HB.out GE545.out GE546.out GE554.out GE555.out GE558.out GE561.out GE564.out))
              rintro e w134 ⟨rfl, hb⟩; refine ⟨_, rfl, ?_⟩; replace BK545 := bb_ BK545 hb; replace BK546 := bb_ BK546 hb; replace BK554 := bb_ BK554 hb; replace BK555 := bb_ BK555 hb; replace BK558 := bb_ BK558 hb; replace BK561 := bb_ BK561 hb; replace BK564 := bb_ BK564 hb; replace HB := hb7_ HB hb GE545 GE546 GE554 GE555 GE558 GE561 GE564
              (try clear hb)
              (try clear hb2)
              (try clear hk)
              (try clear hi)
              refine hK.out _ _ ⟨cl_ BK545 0, cl_ BK545 1, cl_ BK558 0, cl_ BK558 1, cl_ BK546 0, cl_ BK546 1⟩ (fun hHeld => ?_); clear hK K; refine norm_ (a' := ?_) ?_ ?_; rotate_left
              ·
               show Act.put _ (some 77) _ = _; simp only [Act.put, List.setIfInBounds_toArray, List.set_cons_zero, List.set_cons_succ, i64_w, i32_w]; rfl
              refine pure_y 8 (some 78) laws_FnRangeOrder.b9_ (any_of HT_.out (by kernel_rfl)) (h := ?_)
              refine pure_y 9 (some 79) laws_FnRangeOrder.b10_ (any_of HT_.out (by kernel_rfl)) (h := ?_)
              refine pure_y 10 (some 80) laws_FnRangeOrder.b11_ (any_of HT_.out (by kernel_rfl)) (h := ?_)
              refine pure_n 11 (some 81) laws_FnRangeOrder.b12_ (any_of HT_.out (by kernel_rfl)) (h := ?_)
              refine pure_n 12 (some 82) laws_FnRangeOrder.b13_ (any_of HT_.out (by kernel_rfl)) (h := ?_)
              refine pure_n 13 (some 83) laws_FnRangeOrder.b14_ (any_of HT_.out (by kernel_rfl)) (h := ?_)
              refine pure_n 14 (some 84) laws_FnRangeOrder.b15_ (any_of HT_.out (by kernel_rfl)) (h := ?_)
              refine pure_y 15 (some 85) laws_FnRangeOrder.b16_ (any_of HT_.out (by kernel_rfl)) (h := ?_)
              refine pure_y 16 (some 86) laws_FnRangeOrder.b17_ (any_of HT_.out (by kernel_rfl)) (h := ?_)
              refine pure_n 17 (some 87) laws_FnRangeOrder.b18_ (any_of HT_.out (by kernel_rfl)) (h := ?_)
              refine pure_n 18 (some 88) laws_FnRangeOrder.b19_ (any_of HT_.out (by kernel_rfl)) (h := ?_)
              refine pure_n 19 (some 89) laws_FnRangeOrder.b20_ (any_of HT_.out (by kernel_rfl)) (h := ?_)
              refine pure_n 20 (some 90) laws_FnRangeOrder.b21_ (any_of HT_.out (by kernel_rfl)) (h := ?_)
              refine pure_y 21 (some 91) laws_FnRangeOrder.b22_ (any_of HT_.out (by kernel_rfl)) (h := ?_)
              refine pure_y 22 (some 92) laws_FnRangeOrder.b23_ (any_of HT_.out (by kernel_rfl)) (h := ?_)
              refine pure_n 23 (some 93) laws_FnRangeOrder.b24_ (any_of HT_.out (by kernel_rfl)) (h := ?_)
              refine pure_n 24 (some 94) laws_FnRangeOrder.b25_ (any_of HT_.out (by kernel_rfl)) (h := ?_)
              refine pure_n 25 (some 95) laws_FnRangeOrder.b26_ (any_of HT_.out (by kernel_rfl)) (h := ?_)
              refine pure_n 26 (some 96) laws_FnRangeOrder.b27_ (any_of HT_.out (by kernel_rfl)) (h := ?_)
              refine pure_n 27 (some 97) laws_FnRangeOrder.b28_ (any_of HT_.out (by kernel_rfl)) (h := ?_)
              refine pure_n 28 (some 98) laws_FnRangeOrder.b29_ (any_of HT_.out (by kernel_rfl)) (h := ?_)
              refine pure_n 29 (some 99) laws_FnRangeOrder.b30_ (any_of HT_.out (by kernel_rfl)) (h := ?_)
              refine pure_y 30 (some 100) laws_FnRangeOrder.b31_ (any_of HT_.out (by kernel_rfl)) (h := ?_)
              refine done_ (done_of HT_.out (by kernel_rfl)) ?_
              try go_wp2
              go_meet
              case rel => exact ⟨_, (true), (by first | rfl | (simp; done) | (simp [*]; done)), H', ⟨by have := HJ2.out; have := HJ12.out; have := HJ78.out; first | omega | exact Nat.le_refl _⟩, bk_ BK545, bk_ BK546, bk_ BK554, bk_ BK555, bk_ BK558, bk_ BK561, bk_ BK564, ⟨by repeat (first | (with_reducible first | exact HB.out | apply below_alloc | apply pw_below_drewN | apply below_drew1 | refine below_set ?_ GE545.out | refine below_set ?_ GE546.out | refine below_set ?_ GE554.out | refine below_set ?_ GE555.out | refine below_set ?_ GE558.out | refine below_set ?_ GE561.out | refine below_set ?_ GE564.out) | exact HB.out)⟩⟩
           ·
            replace c109 := Bool.eq_false_iff.mpr c109; subst c109; have H1 : (laws_FnRangeOrder.j3 kj78 true t541 t542 t543 t544 t547 t548 t556 t557 t562 t563) = some r := by rw [if_neg (show ¬ (false = true) by decide)] at H; exact H
            clear H; have H := H1; clear H1
            as_aux_lemma =>
             have H' := Aside0.mk H; clear H
             try go_wp2
             replace BK545 := bd_ BK545; replace BK546 := bd_ BK546; replace BK554 := bd_ BK554; replace BK555 := bd_ BK555; replace BK558 := bd_ BK558; replace BK561 := bd_ BK561; replace BK564 := bd_ BK564; replace HB := hd_ HB; refine start_ (n := 31) (S := fun w' => w'.cell? ⟨gb545, 0, none⟩ = some (.int .i64 t541) ∧ w'.cell? ⟨gb545, 1, none⟩ = some (.int .i64 t542) ∧ w'.cell? ⟨gb558, 0, none⟩ = some (.int .i64 t556) ∧ w'.cell? ⟨gb558, 1, none⟩ = some (.int .i64 t557)) (ds := []) laws_FnRangeOrder.b0_ (by kernel_rfl) rfl rfl ⟨cl_ BK545 0, cl_ BK545 1, cl_ BK558 0, cl_ BK558 1⟩ (fun hHeld => ?_); refine with_tabW laws_FnRangeOrder.tab12 laws_FnRangeOrder.bits12 (fun HT_ HW_ => ?_); generalize wc.drew = w135 at BK545 BK546 BK554 BK555 BK558 BK561 BK564 HB hHeld ⊢; refine take_y 0 (some 70) laws_FnRangeOrder.b1_ rfl (take_ofW HT_.out HW_.out (by kernel_rfl)) hHeld (Or.inl ⟨by rfl, (by rintro w' ⟨s0, s1, s2, s3⟩; go_simp; with_reducible rfl)⟩) (h := ?_)
             refine take_y 1 (some 71) laws_FnRangeOrder.b2_ rfl (take_ofW HT_.out HW_.out (by kernel_rfl)) hHeld (Or.inl ⟨by rfl, (by rintro w' ⟨s0, s1, s2, s3⟩; go_simp; with_reducible rfl)⟩) (h := ?_)
             refine one_ (i := 2) (N := some 72) laws_FnRangeOrder.b3_ rfl rfl (one_of HT_.out (by kernel_rfl)) (by decide) (fun K hK => ?_); refine gs_ Tryd.func28 #[.agg #[.int .i64 t541, .int .i64 t542], .agg #[.int .i64 t556, .int .i64 t557]] (h := ?_); with_reducible refine (impl_RangeLeq.calls t541 t542 t556 t557 false _ ?side1 A108.out).mono ?_
             (case side1 => exact GL0.below HG0.out (sq_below7 HB.out GE545.out GE546.out GE554.out GE555.out GE558.out GE561.out GE564.out))
             rintro e w136 ⟨rfl, hb⟩; refine ⟨_, rfl, ?_⟩; replace BK545 := bb_ BK545 hb; replace BK546 := bb_ BK546 hb; replace BK554 := bb_ BK554 hb; replace BK555 := bb_ BK555 hb; replace BK558 := bb_ BK558 hb; replace BK561 := bb_ BK561 hb; replace BK564 := bb_ BK564 hb; replace HB := hb7_ HB hb GE545 GE546 GE554 GE555 GE558 GE561 GE564
             (try clear hb)
             (try clear hb2)
             (try clear hk)
             (try clear hi)
             refine hK.out _ _ ⟨cl_ BK545 0, cl_ BK545 1, cl_ BK558 0, cl_ BK558 1⟩ (fun hHeld => ?_); clear hK K; refine norm_ (a' := ?_) ?_ ?_; rotate_left
             ·
              show Act.put _ (some 72) _ = _; simp only [Act.put, List.setIfInBounds_toArray, List.set_cons_zero, List.set_cons_succ, i64_w, i32_w]; rfl
             refine pure_y 3 (some 73) laws_FnRangeOrder.b4_ (any_of HT_.out (by kernel_rfl)) (h := ?_)
             refine pure_y 4 (some 74) laws_FnRangeOrder.b5_ (any_of HT_.out (by kernel_rfl)) (h := ?_)
             refine pure_n 5 (some 75) laws_FnRangeOrder.b6_ (any_of HT_.out (by kernel_rfl)) (h := ?_)
             refine pure_n 6 (some 76) laws_FnRangeOrder.b7_ (any_of HT_.out (by kernel_rfl)) (h := ?_)
             refine pure_n 7 (some 77) laws_FnRangeOrder.b8_ (any_of HT_.out (by kernel_rfl)) (h := ?_)
             refine pure_n 8 (some 78) laws_FnRangeOrder.b9_ (any_of HT_.out (by kernel_rfl)) (h := ?_)
             refine pure_y 9 (some 79) laws_FnRangeOrder.b10_ (any_of HT_.out (by kernel_rfl)) (h := ?_)
             refine pure_y 10 (some 80) laws_FnRangeOrder.b11_ (any_of HT_.out (by kernel_rfl)) (h := ?_)
             refine pure_n 11 (some 81) laws_FnRangeOrder.b12_ (any_of HT_.out (by kernel_rfl)) (h := ?_)
             refine pure_n 12 (some 82) laws_FnRangeOrder.b13_ (any_of HT_.out (by kernel_rfl)) (h := ?_)
             refine pure_n 13 (some 83) laws_FnRangeOrder.b14_ (any_of HT_.out (by kernel_rfl)) (h := ?_)
             refine pure_n 14 (some 84) laws_FnRangeOrder.b15_ (any_of HT_.out (by kernel_rfl)) (h := ?_)
             refine pure_y 15 (some 85) laws_FnRangeOrder.b16_ (any_of HT_.out (by kernel_rfl)) (h := ?_)
             refine pure_y 16 (some 86) laws_FnRangeOrder.b17_ (any_of HT_.out (by kernel_rfl)) (h := ?_)
             refine pure_n 17 (some 87) laws_FnRangeOrder.b18_ (any_of HT_.out (by kernel_rfl)) (h := ?_)
             refine pure_n 18 (some 88) laws_FnRangeOrder.b19_ (any_of HT_.out (by kernel_rfl)) (h := ?_)
             refine pure_n 19 (some 89) laws_FnRangeOrder.b20_ (any_of HT_.out (by kernel_rfl)) (h := ?_)
             refine pure_n 20 (some 90) laws_FnRangeOrder.b21_ (any_of HT_.out (by kernel_rfl)) (h := ?_)
             refine pure_y 21 (some 91) laws_FnRangeOrder.b22_ (any_of HT_.out (by kernel_rfl)) (h := ?_)
             refine pure_y 22 (some 92) laws_FnRangeOrder.b23_ (any_of HT_.out (by kernel_rfl)) (h := ?_)
             refine pure_n 23 (some 93) laws_FnRangeOrder.b24_ (any_of HT_.out (by kernel_rfl)) (h := ?_)
             refine pure_n 24 (some 94) laws_FnRangeOrder.b25_ (any_of HT_.out (by kernel_rfl)) (h := ?_)
             refine pure_n 25 (some 95) laws_FnRangeOrder.b26_ (any_of HT_.out (by kernel_rfl)) (h := ?_)
             refine pure_n 26 (some 96) laws_FnRangeOrder.b27_ (any_of HT_.out (by kernel_rfl)) (h := ?_)
             refine pure_n 27 (some 97) laws_FnRangeOrder.b28_ (any_of HT_.out (by kernel_rfl)) (h := ?_)
             refine pure_n 28 (some 98) laws_FnRangeOrder.b29_ (any_of HT_.out (by kernel_rfl)) (h := ?_)
             refine pure_n 29 (some 99) laws_FnRangeOrder.b30_ (any_of HT_.out (by kernel_rfl)) (h := ?_)
             refine pure_y 30 (some 100) laws_FnRangeOrder.b31_ (any_of HT_.out (by kernel_rfl)) (h := ?_)
             refine done_ (done_of HT_.out (by kernel_rfl)) ?_
             try go_wp2
             go_meet
             case rel => exact ⟨_, (true), (by first | rfl | (simp; done) | (simp [*]; done)), H', ⟨by have := HJ2.out; have := HJ12.out; have := HJ78.out; first | omega | exact Nat.le_refl _⟩, bk_ BK545, bk_ BK546, bk_ BK554, bk_ BK555, bk_ BK558, bk_ BK561, bk_ BK564, ⟨by repeat (first | (with_reducible first | exact HB.out | apply below_alloc | apply pw_below_drewN | apply below_drew1 | refine below_set ?_ GE545.out | refine below_set ?_ GE546.out | refine below_set ?_ GE554.out | refine below_set ?_ GE555.out | refine below_set ?_ GE558.out | refine below_set ?_ GE561.out | refine below_set ?_ GE564.out) | exact HB.out)⟩⟩
          case rest =>
           clear HC107
           try clear c1
           try clear c2
           try clear p2
           try clear c10
           try clear c11
           try clear c28
           try clear c109
           try clear c111
           obtain ⟨kq, x100_106, rfl, HA, HJ106, BK545, BK546, BK554, BK555, BK558, BK561, BK564, HB⟩ := hcut; cases kq with
           | zero => exact absurd HA.out (by simp [laws_FnRangeOrder.j3])
           | succ kj106 =>
            have H := HA.out; clear HA; simp only [laws_FnRangeOrder.j3] at H
            by_cases c137 : x100_106 = true
            ·
             subst c137; have H1 : (some false) = some r := by rw [if_pos rfl] at H; exact H
             clear H; have H := H1; clear H1
             as_aux_lemma =>
              exact absurd ((Option.some.inj H).trans hr_) Bool.false_ne_true
            ·
             replace c137 := Bool.eq_false_iff.mpr c137; subst c137; have H1 : ((spec_RangeOk.f t547 t548).bind fun t578 => (if t578 = true then ((spec_RangeLeq.f t541 t542 t547 t548).bind fun t579 => (if t579 = true then ((spec_RangeLeq.f t543 t544 t547 t548).bind fun t580 => (if t580 = true then ((impl_RangeLeq.f t556 t557 t547 t548).bind fun t581 => (laws_FnRangeOrder.j4 kj106 (!t581) t541 t542 t543 t544 t556 t557 t562 t563)) else (laws_FnRangeOrder.j4 kj106 false t541 t542 t543 t544 t556 t557 t562 t563))) else (laws_FnRangeOrder.j4 kj106 false t541 t542 t543 t544 t556 t557 t562 t563))) else (laws_FnRangeOrder.j4 kj106 false t541 t542 t543 t544 t556 t557 t562 t563))) = some r := by rw [if_neg (show ¬ (false = true) by decide)] at H; exact H
             clear H; have H := H1; clear H1; have HC138 := Aside0.mk H; clear H
             go_upto_region 14 with (fail)
             go_cut [118] (fun v118 wc => ∃ (kq : Nat) (x118_137 : Bool), v118 = .bool x118_137 ∧ Aside0 (laws_FnRangeOrder.j4 kq x118_137 t541 t542 t543 t544 t556 t557 t562 t563 = some r) ∧ Aside0 (kq ≤ kj106) ∧ Aside0 (wc.heap[gb545]? = some (.cells #[.int .i64 t541, .int .i64 t542] 25 (0, 0))) ∧ Aside0 (wc.heap[gb546]? = some (.cells #[.int .i64 t543, .int .i64 t544] 25 (0, 0))) ∧ Aside0 (wc.heap[gb554]? = some (.cells #[.int .i64 t547, .int .i64 t548] 25 (0, 0))) ∧ Aside0 (wc.heap[gb555]? = some (.cells #[.int .i64 t549, .int .i64 t550] 25 (0, 0))) ∧ Aside0 (wc.heap[gb558]? = some (.cells #[.int .i64 t556, .int .i64 t557] 25 (0, 0))) ∧ Aside0 (wc.heap[gb561]? = some (.cells #[.int .i64 t559, .int .i64 t560] 25 (0, 0))) ∧ Aside0 (wc.heap[gb564]? = some (.cells #[.int .i64 t562, .int .i64 t563] 25 (0, 0))) ∧ Aside0 (Below w.heap.size w wc))
             case first =>
              have H := HC138.out; clear HC138; replace H := Option.bind_eq_some_iff.mp H; obtain ⟨t578, A1390, H⟩ := H; (try dsimp only at H); have A139 := Aside0.mk A1390; clear A1390
              by_cases c140 : t578 = true
              ·
               subst c140; have H1 : ((spec_RangeLeq.f t541 t542 t547 t548).bind fun t579 => (if t579 = true then ((spec_RangeLeq.f t543 t544 t547 t548).bind fun t580 => (if t580 = true then ((impl_RangeLeq.f t556 t557 t547 t548).bind fun t581 => (laws_FnRangeOrder.j4 kj106 (!t581) t541 t542 t543 t544 t556 t557 t562 t563)) else (laws_FnRangeOrder.j4 kj106 false t541 t542 t543 t544 t556 t557 t562 t563))) else (laws_FnRangeOrder.j4 kj106 false t541 t542 t543 t544 t556 t557 t562 t563))) = some r := by rw [if_pos rfl] at H; exact H
               clear H; have H := H1; clear H1; replace H := Option.bind_eq_some_iff.mp H; obtain ⟨t579, A1410, H⟩ := H; (try dsimp only at H); have A141 := Aside0.mk A1410; clear A1410
               by_cases c142 : t579 = true
               ·
                subst c142; have H1 : ((spec_RangeLeq.f t543 t544 t547 t548).bind fun t580 => (if t580 = true then ((impl_RangeLeq.f t556 t557 t547 t548).bind fun t581 => (laws_FnRangeOrder.j4 kj106 (!t581) t541 t542 t543 t544 t556 t557 t562 t563)) else (laws_FnRangeOrder.j4 kj106 false t541 t542 t543 t544 t556 t557 t562 t563))) = some r := by rw [if_pos rfl] at H; exact H
                clear H; have H := H1; clear H1; replace H := Option.bind_eq_some_iff.mp H; obtain ⟨t580, A1430, H⟩ := H; (try dsimp only at H); have A143 := Aside0.mk A1430; clear A1430
                by_cases c144 : t580 = true
                ·
                 subst c144; have H1 : ((impl_RangeLeq.f t556 t557 t547 t548).bind fun t581 => (laws_FnRangeOrder.j4 kj106 (!t581) t541 t542 t543 t544 t556 t557 t562 t563)) = some r := by rw [if_pos rfl] at H; exact H
                 clear H; have H := H1; clear H1; replace H := Option.bind_eq_some_iff.mp H; obtain ⟨t581, A1450, H⟩ := H; (try dsimp only at H); have A145 := Aside0.mk A1450; clear A1450
                 as_aux_lemma =>
                  have H' := Aside0.mk H; clear H; have hnb146 := NB554_545.out; have hnc146 := NB545_554.out; have hnb147 := NB554_546.out; have hnc147 := NB546_554.out; have hnb148 := NB554_555.out; have hnc148 := NB555_554.out; have hnb149 := NB554_558.out; have hnc149 := NB558_554.out; have hnb150 := NB554_561.out; have hnc150 := NB561_554.out; have hnb151 := NB554_564.out; have hnc151 := NB564_554.out; have hcz152_0 := cl_ (v := .int .i64 t547) BK554 0; have hcz152_1 := cl_ (v := .int .i64 t548) BK554 1; have hfz152_0 := blk_frozen BK554.out 0; have hfz152_1 := blk_frozen BK554.out 1
                  go_wp2_with (first | ((with_reducible refine gate_callee (f := 16) rfl ?_); refine gl_ 102 Tryd.func16 #[.agg #[.int .i64 t547, .int .i64 t548]] (h := ?_); (with_reducible refine (spec_RangeOk.calls t547 t548 true _ A139.out).mono ?_); rintro e w153 ⟨rfl, hb⟩; refine ⟨_, rfl, ?_⟩; replace BK545 := bb_ BK545 hb; replace BK546 := bb_ BK546 hb; replace BK554 := bb_ BK554 hb; replace BK555 := bb_ BK555 hb; replace BK558 := bb_ BK558 hb; replace BK561 := bb_ BK561 hb; replace BK564 := bb_ BK564 hb; replace HB := hb7_ HB hb GE545 GE546 GE554 GE555 GE558 GE561 GE564; (try clear hb); (try clear hb2); (try clear hk); (try clear hi); have hnb154 := NB545_546.out; have hnc154 := NB546_545.out; have hnb155 := NB545_555.out; have hnc155 := NB555_545.out; have hnb156 := NB545_558.out; have hnc156 := NB558_545.out; have hnb157 := NB545_561.out; have hnc157 := NB561_545.out; have hnb158 := NB545_564.out; have hnc158 := NB564_545.out; have hcz159_0 := cl_ (v := .int .i64 t541) BK545 0; have hcz159_1 := cl_ (v := .int .i64 t542) BK545 1; have hfz159_0 := blk_frozen BK545.out 0; have hfz159_1 := blk_frozen BK545.out 1; have hcz160_0 := cl_ (v := .int .i64 t547) BK554 0; have hcz160_1 := cl_ (v := .int .i64 t548) BK554 1; have hfz160_0 := blk_frozen BK554.out 0; have hfz160_1 := blk_frozen BK554.out 1) | (go_at_call 29; (with_reducible refine (spec_RangeLeq.calls t541 t542 t547 t548 true _ A141.out).mono ?_); rintro e w161 ⟨rfl, hb⟩; replace BK545 := bb_ BK545 hb; replace BK546 := bb_ BK546 hb; replace BK554 := bb_ BK554 hb; replace BK555 := bb_ BK555 hb; replace BK558 := bb_ BK558 hb; replace BK561 := bb_ BK561 hb; replace BK564 := bb_ BK564 hb; replace HB := hb7_ HB hb GE545 GE546 GE554 GE555 GE558 GE561 GE564; (try clear hb); (try clear hb2); (try clear hk); (try clear hi); have hnb162 := NB546_555.out; have hnc162 := NB555_546.out; have hnb163 := NB546_558.out; have hnc163 := NB558_546.out; have hnb164 := NB546_561.out; have hnc164 := NB561_546.out; have hnb165 := NB546_564.out; have hnc165 := NB564_546.out; have hcz166_0 := cl_ (v := .int .i64 t543) BK546 0; have hcz166_1 := cl_ (v := .int .i64 t544) BK546 1; have hfz166_0 := blk_frozen BK546.out 0; have hfz166_1 := blk_frozen BK546.out 1; have hcz167_0 := cl_ (v := .int .i64 t547) BK554 0; have hcz167_1 := cl_ (v := .int .i64 t548) BK554 1; have hfz167_0 := blk_frozen BK554.out 0; have hfz167_1 := blk_frozen BK554.out 1) | (go_at_call 29; (with_reducible refine (spec_RangeLeq.calls t543 t544 t547 t548 true _ A143.out).mono ?_); rintro e w168 ⟨rfl, hb⟩; replace BK545 := bb_ BK545 hb; replace BK546 := bb_ BK546 hb; replace BK554 := bb_ BK554 hb; replace BK555 := bb_ BK555 hb; replace BK558 := bb_ BK558 hb; replace BK561 := bb_ BK561 hb; replace BK564 := bb_ BK564 hb; replace HB := hb7_ HB hb GE545 GE546 GE554 GE555 GE558 GE561 GE564; (try clear hb); (try clear hb2); (try clear hk); (try clear hi); have hnb169 := NB558_555.out; have hnc169 := NB555_558.out; have hnb170 := NB558_561.out; have hnc170 := NB561_558.out; have hnb171 := NB558_564.out; have hnc171 := NB564_558.out; have hcz172_0 := cl_ (v := .int .i64 t556) BK558 0; have hcz172_1 := cl_ (v := .int .i64 t557) BK558 1; have hfz172_0 := blk_frozen BK558.out 0; have hfz172_1 := blk_frozen BK558.out 1; have hcz173_0 := cl_ (v := .int .i64 t547) BK554 0; have hcz173_1 := cl_ (v := .int .i64 t548) BK554 1; have hfz173_0 := blk_frozen BK554.out 0; have hfz173_1 := blk_frozen BK554.out 1) | (go_at_call 28; (with_reducible refine (impl_RangeLeq.calls t556 t557 t547 t548 t581 _ ?side1 A145.out).mono ?_); (case side1 => exact GL0.below HG0.out (sq_below7 HB.out GE545.out GE546.out GE554.out GE555.out GE558.out GE561.out GE564.out)); rintro e w174 ⟨rfl, hb⟩; replace BK545 := bb_ BK545 hb; replace BK546 := bb_ BK546 hb; replace BK554 := bb_ BK554 hb; replace BK555 := bb_ BK555 hb; replace BK558 := bb_ BK558 hb; replace BK561 := bb_ BK561 hb; replace BK564 := bb_ BK564 hb; replace HB := hb7_ HB hb GE545 GE546 GE554 GE555 GE558 GE561 GE564; (try clear hb); (try clear hb2); (try clear hk); (try clear hi)))
                  go_meet
                  case rel => exact ⟨_, (!t581), (by first | rfl | (simp; done) | (simp [*]; done)), H', ⟨by have := HJ2.out; have := HJ12.out; have := HJ78.out; have := HJ106.out; first | omega | exact Nat.le_refl _⟩, bk_ BK545, bk_ BK546, bk_ BK554, bk_ BK555, bk_ BK558, bk_ BK561, bk_ BK564, ⟨by repeat (first | (with_reducible first | exact HB.out | apply below_alloc | apply pw_below_drewN | apply below_drew1 | refine below_set ?_ GE545.out | refine below_set ?_ GE546.out | refine below_set ?_ GE554.out | refine below_set ?_ GE555.out | refine below_set ?_ GE558.out | refine below_set ?_ GE561.out | refine below_set ?_ GE564.out) | exact HB.out)⟩⟩
                ·
                 replace c144 := Bool.eq_false_iff.mpr c144; subst c144; have H1 : (laws_FnRangeOrder.j4 kj106 false t541 t542 t543 t544 t556 t557 t562 t563) = some r := by rw [if_neg (show ¬ (false = true) by decide)] at H; exact H
                 clear H; have H := H1; clear H1
                 as_aux_lemma =>
                  have H' := Aside0.mk H; clear H; have hnb175 := NB554_545.out; have hnc175 := NB545_554.out; have hnb176 := NB554_546.out; have hnc176 := NB546_554.out; have hnb177 := NB554_555.out; have hnc177 := NB555_554.out; have hnb178 := NB554_558.out; have hnc178 := NB558_554.out; have hnb179 := NB554_561.out; have hnc179 := NB561_554.out; have hnb180 := NB554_564.out; have hnc180 := NB564_554.out; have hcz181_0 := cl_ (v := .int .i64 t547) BK554 0; have hcz181_1 := cl_ (v := .int .i64 t548) BK554 1; have hfz181_0 := blk_frozen BK554.out 0; have hfz181_1 := blk_frozen BK554.out 1
                  go_wp2_with (first | ((with_reducible refine gate_callee (f := 16) rfl ?_); refine gl_ 102 Tryd.func16 #[.agg #[.int .i64 t547, .int .i64 t548]] (h := ?_); (with_reducible refine (spec_RangeOk.calls t547 t548 true _ A139.out).mono ?_); rintro e w182 ⟨rfl, hb⟩; refine ⟨_, rfl, ?_⟩; replace BK545 := bb_ BK545 hb; replace BK546 := bb_ BK546 hb; replace BK554 := bb_ BK554 hb; replace BK555 := bb_ BK555 hb; replace BK558 := bb_ BK558 hb; replace BK561 := bb_ BK561 hb; replace BK564 := bb_ BK564 hb; replace HB := hb7_ HB hb GE545 GE546 GE554 GE555 GE558 GE561 GE564; (try clear hb); (try clear hb2); (try clear hk); (try clear hi); have hnb183 := NB545_546.out; have hnc183 := NB546_545.out; have hnb184 := NB545_555.out; have hnc184 := NB555_545.out; have hnb185 := NB545_558.out; have hnc185 := NB558_545.out; have hnb186 := NB545_561.out; have hnc186 := NB561_545.out; have hnb187 := NB545_564.out; have hnc187 := NB564_545.out; have hcz188_0 := cl_ (v := .int .i64 t541) BK545 0; have hcz188_1 := cl_ (v := .int .i64 t542) BK545 1; have hfz188_0 := blk_frozen BK545.out 0; have hfz188_1 := blk_frozen BK545.out 1; have hcz189_0 := cl_ (v := .int .i64 t547) BK554 0; have hcz189_1 := cl_ (v := .int .i64 t548) BK554 1; have hfz189_0 := blk_frozen BK554.out 0; have hfz189_1 := blk_frozen BK554.out 1) | (go_at_call 29; (with_reducible refine (spec_RangeLeq.calls t541 t542 t547 t548 true _ A141.out).mono ?_); rintro e w190 ⟨rfl, hb⟩; replace BK545 := bb_ BK545 hb; replace BK546 := bb_ BK546 hb; replace BK554 := bb_ BK554 hb; replace BK555 := bb_ BK555 hb; replace BK558 := bb_ BK558 hb; replace BK561 := bb_ BK561 hb; replace BK564 := bb_ BK564 hb; replace HB := hb7_ HB hb GE545 GE546 GE554 GE555 GE558 GE561 GE564; (try clear hb); (try clear hb2); (try clear hk); (try clear hi); have hnb191 := NB546_555.out; have hnc191 := NB555_546.out; have hnb192 := NB546_558.out; have hnc192 := NB558_546.out; have hnb193 := NB546_561.out; have hnc193 := NB561_546.out; have hnb194 := NB546_564.out; have hnc194 := NB564_546.out; have hcz195_0 := cl_ (v := .int .i64 t543) BK546 0; have hcz195_1 := cl_ (v := .int .i64 t544) BK546 1; have hfz195_0 := blk_frozen BK546.out 0; have hfz195_1 := blk_frozen BK546.out 1; have hcz196_0 := cl_ (v := .int .i64 t547) BK554 0; have hcz196_1 := cl_ (v := .int .i64 t548) BK554 1; have hfz196_0 := blk_frozen BK554.out 0; have hfz196_1 := blk_frozen BK554.out 1) | (go_at_call 29; (with_reducible refine (spec_RangeLeq.calls t543 t544 t547 t548 false _ A143.out).mono ?_); rintro e w197 ⟨rfl, hb⟩; replace BK545 := bb_ BK545 hb; replace BK546 := bb_ BK546 hb; replace BK554 := bb_ BK554 hb; replace BK555 := bb_ BK555 hb; replace BK558 := bb_ BK558 hb; replace BK561 := bb_ BK561 hb; replace BK564 := bb_ BK564 hb; replace HB := hb7_ HB hb GE545 GE546 GE554 GE555 GE558 GE561 GE564; (try clear hb); (try clear hb2); (try clear hk); (try clear hi)))
                  go_meet
                  case rel => exact ⟨_, (false), (by first | rfl | (simp; done) | (simp [*]; done)), H', ⟨by have := HJ2.out; have := HJ12.out; have := HJ78.out; have := HJ106.out; first | omega | exact Nat.le_refl _⟩, bk_ BK545, bk_ BK546, bk_ BK554, bk_ BK555, bk_ BK558, bk_ BK561, bk_ BK564, ⟨by repeat (first | (with_reducible first | exact HB.out | apply below_alloc | apply pw_below_drewN | apply below_drew1 | refine below_set ?_ GE545.out | refine below_set ?_ GE546.out | refine below_set ?_ GE554.out | refine below_set ?_ GE555.out | refine below_set ?_ GE558.out | refine below_set ?_ GE561.out | refine below_set ?_ GE564.out) | exact HB.out)⟩⟩
               ·
                replace c142 := Bool.eq_false_iff.mpr c142; subst c142; have H1 : (laws_FnRangeOrder.j4 kj106 false t541 t542 t543 t544 t556 t557 t562 t563) = some r := by rw [if_neg (show ¬ (false = true) by decide)] at H; exact H
                clear H; have H := H1; clear H1
                as_aux_lemma =>
                 have H' := Aside0.mk H; clear H; have hnb198 := NB554_545.out; have hnc198 := NB545_554.out; have hnb199 := NB554_546.out; have hnc199 := NB546_554.out; have hnb200 := NB554_555.out; have hnc200 := NB555_554.out; have hnb201 := NB554_558.out; have hnc201 := NB558_554.out; have hnb202 := NB554_561.out; have hnc202 := NB561_554.out; have hnb203 := NB554_564.out; have hnc203 := NB564_554.out; have hcz204_0 := cl_ (v := .int .i64 t547) BK554 0; have hcz204_1 := cl_ (v := .int .i64 t548) BK554 1; have hfz204_0 := blk_frozen BK554.out 0; have hfz204_1 := blk_frozen BK554.out 1
                 go_wp2_with (first | ((with_reducible refine gate_callee (f := 16) rfl ?_); refine gl_ 102 Tryd.func16 #[.agg #[.int .i64 t547, .int .i64 t548]] (h := ?_); (with_reducible refine (spec_RangeOk.calls t547 t548 true _ A139.out).mono ?_); rintro e w205 ⟨rfl, hb⟩; refine ⟨_, rfl, ?_⟩; replace BK545 := bb_ BK545 hb; replace BK546 := bb_ BK546 hb; replace BK554 := bb_ BK554 hb; replace BK555 := bb_ BK555 hb; replace BK558 := bb_ BK558 hb; replace BK561 := bb_ BK561 hb; replace BK564 := bb_ BK564 hb; replace HB := hb7_ HB hb GE545 GE546 GE554 GE555 GE558 GE561 GE564; (try clear hb); (try clear hb2); (try clear hk); (try clear hi); have hnb206 := NB545_546.out; have hnc206 := NB546_545.out; have hnb207 := NB545_555.out; have hnc207 := NB555_545.out; have hnb208 := NB545_558.out; have hnc208 := NB558_545.out; have hnb209 := NB545_561.out; have hnc209 := NB561_545.out; have hnb210 := NB545_564.out; have hnc210 := NB564_545.out; have hcz211_0 := cl_ (v := .int .i64 t541) BK545 0; have hcz211_1 := cl_ (v := .int .i64 t542) BK545 1; have hfz211_0 := blk_frozen BK545.out 0; have hfz211_1 := blk_frozen BK545.out 1; have hcz212_0 := cl_ (v := .int .i64 t547) BK554 0; have hcz212_1 := cl_ (v := .int .i64 t548) BK554 1; have hfz212_0 := blk_frozen BK554.out 0; have hfz212_1 := blk_frozen BK554.out 1) | (go_at_call 29; (with_reducible refine (spec_RangeLeq.calls t541 t542 t547 t548 false _ A141.out).mono ?_); rintro e w213 ⟨rfl, hb⟩; replace BK545 := bb_ BK545 hb; replace BK546 := bb_ BK546 hb; replace BK554 := bb_ BK554 hb; replace BK555 := bb_ BK555 hb; replace BK558 := bb_ BK558 hb; replace BK561 := bb_ BK561 hb; replace BK564 := bb_ BK564 hb; replace HB := hb7_ HB hb GE545 GE546 GE554 GE555 GE558 GE561 GE564; (try clear hb); (try clear hb2); (try clear hk); (try clear hi)))
                 go_meet
                 case rel => exact ⟨_, (false), (by first | rfl | (simp; done) | (simp [*]; done)), H', ⟨by have := HJ2.out; have := HJ12.out; have := HJ78.out; have := HJ106.out; first | omega | exact Nat.le_refl _⟩, bk_ BK545, bk_ BK546, bk_ BK554, bk_ BK555, bk_ BK558, bk_ BK561, bk_ BK564, ⟨by repeat (first | (with_reducible first | exact HB.out | apply below_alloc | apply pw_below_drewN | apply below_drew1 | refine below_set ?_ GE545.out | refine below_set ?_ GE546.out | refine below_set ?_ GE554.out | refine below_set ?_ GE555.out | refine below_set ?_ GE558.out | refine below_set ?_ GE561.out | refine below_set ?_ GE564.out) | exact HB.out)⟩⟩
              ·
               replace c140 := Bool.eq_false_iff.mpr c140; subst c140; have H1 : (laws_FnRangeOrder.j4 kj106 false t541 t542 t543 t544 t556 t557 t562 t563) = some r := by rw [if_neg (show ¬ (false = true) by decide)] at H; exact H
               clear H; have H := H1; clear H1
               as_aux_lemma =>
                have H' := Aside0.mk H; clear H; have hnb214 := NB554_545.out; have hnc214 := NB545_554.out; have hnb215 := NB554_546.out; have hnc215 := NB546_554.out; have hnb216 := NB554_555.out; have hnc216 := NB555_554.out; have hnb217 := NB554_558.out; have hnc217 := NB558_554.out; have hnb218 := NB554_561.out; have hnc218 := NB561_554.out; have hnb219 := NB554_564.out; have hnc219 := NB564_554.out; have hcz220_0 := cl_ (v := .int .i64 t547) BK554 0; have hcz220_1 := cl_ (v := .int .i64 t548) BK554 1; have hfz220_0 := blk_frozen BK554.out 0; have hfz220_1 := blk_frozen BK554.out 1
                go_wp2_with (first | ((with_reducible refine gate_callee (f := 16) rfl ?_); refine gl_ 102 Tryd.func16 #[.agg #[.int .i64 t547, .int .i64 t548]] (h := ?_); (with_reducible refine (spec_RangeOk.calls t547 t548 false _ A139.out).mono ?_); rintro e w221 ⟨rfl, hb⟩; refine ⟨_, rfl, ?_⟩; replace BK545 := bb_ BK545 hb; replace BK546 := bb_ BK546 hb; replace BK554 := bb_ BK554 hb; replace BK555 := bb_ BK555 hb; replace BK558 := bb_ BK558 hb; replace BK561 := bb_ BK561 hb; replace BK564 := bb_ BK564 hb; replace HB := hb7_ HB hb GE545 GE546 GE554 GE555 GE558 GE561 GE564; (try clear hb); (try clear hb2); (try clear hk); (try clear hi)))
                go_meet
                case rel => exact ⟨_, (false), (by first | rfl | (simp; done) | (simp [*]; done)), H', ⟨by have := HJ2.out; have := HJ12.out; have := HJ78.out; have := HJ106.out; first | omega | exact Nat.le_refl _⟩, bk_ BK545, bk_ BK546, bk_ BK554, bk_ BK555, bk_ BK558, bk_ BK561, bk_ BK564, ⟨by repeat (first | (with_reducible first | exact HB.out | apply below_alloc | apply pw_below_drewN | apply below_drew1 | refine below_set ?_ GE545.out | refine below_set ?_ GE546.out | refine below_set ?_ GE554.out | refine below_set ?_ GE555.out | refine below_set ?_ GE558.out | refine below_set ?_ GE561.out | refine below_set ?_ GE564.out) | exact HB.out)⟩⟩
             case rest =>
              clear HC138
              try clear c1
              try clear c2
              try clear p2
              try clear c10
              try clear c11
              try clear c13
              try clear c14
              try clear c15
              try clear c16
              try clear c17
              try clear c18
              try clear c19
              try clear c20
              try clear c21
              try clear c28
              try clear c109
              try clear c111
              try clear c137
              try clear c140
              try clear c142
              try clear c144
              try clear c146
              try clear c147
              try clear c148
              try clear c149
              try clear c150
              try clear c151
              try clear c154
              try clear c155
              try clear c156
              try clear c157
              try clear c158
              try clear c162
              try clear c163
              try clear c164
              try clear c165
              try clear c169
              try clear c170
              try clear c171
              try clear c175
              try clear c176
              try clear c177
              try clear c178
              try clear c179
              try clear c180
              try clear c183
              try clear c184
              try clear c185
              try clear c186
              try clear c187
              try clear c191
              try clear c192
              try clear c193
              try clear c194
              try clear c198
              try clear c199
              try clear c200
              try clear c201
              try clear c202
              try clear c203
              try clear c206
              try clear c207
              try clear c208
              try clear c209
              try clear c210
              try clear c214
              try clear c215
              try clear c216
              try clear c217
              try clear c218
              try clear c219
              try clear hcz152_0
              try clear hcz152_1
              try clear hcz159_0
              try clear hcz159_1
              try clear hcz160_0
              try clear hcz160_1
              try clear hcz166_0
              try clear hcz166_1
              try clear hcz167_0
              try clear hcz167_1
              try clear hcz172_0
              try clear hcz172_1
              try clear hcz173_0
              try clear hcz173_1
              try clear hcz181_0
              try clear hcz181_1
              try clear hcz188_0
              try clear hcz188_1
              try clear hcz189_0
              try clear hcz189_1
              try clear hcz195_0
              try clear hcz195_1
              try clear hcz196_0
              try clear hcz196_1
              try clear hcz204_0
              try clear hcz204_1
              try clear hcz211_0
              try clear hcz211_1
              try clear hcz212_0
              try clear hcz212_1
              try clear hcz220_0
              try clear hcz220_1
              try clear hfz152_0
              try clear hfz152_1
              try clear hfz159_0
              try clear hfz159_1
              try clear hfz160_0
              try clear hfz160_1
              try clear hfz166_0
              try clear hfz166_1
              try clear hfz167_0
              try clear hfz167_1
              try clear hfz172_0
              try clear hfz172_1
              try clear hfz173_0
              try clear hfz173_1
              try clear hfz181_0
              try clear hfz181_1
              try clear hfz188_0
              try clear hfz188_1
              try clear hfz189_0
              try clear hfz189_1
              try clear hfz195_0
              try clear hfz195_1
              try clear hfz196_0
              try clear hfz196_1
              try clear hfz204_0
              try clear hfz204_1
              try clear hfz211_0
              try clear hfz211_1
              try clear hfz212_0
              try clear hfz212_1
              try clear hfz220_0
              try clear hfz220_1
              try clear p2
              obtain ⟨kq, x118_137, rfl, HA, HJ137, BK545, BK546, BK554, BK555, BK558, BK561, BK564, HB⟩ := hcut; cases kq with
              | zero => exact absurd HA.out (by simp [laws_FnRangeOrder.j4])
              | succ kj137 =>
               have H := HA.out; clear HA; simp only [laws_FnRangeOrder.j4] at H
               by_cases c222 : x118_137 = true
               ·
                subst c222; have H1 : (some false) = some r := by rw [if_pos rfl] at H; exact H
                clear H; have H := H1; clear H1
                as_aux_lemma =>
                 exact absurd ((Option.some.inj H).trans hr_) Bool.false_ne_true
               ·
                replace c222 := Bool.eq_false_iff.mpr c222; subst c222; have H1 : ((spec_RangeText.f kj137 t562 t563).bind fun t582 => (if (t582.size : Int) > 0 then (if t562 ≤ t563 then ((impl_RangeLeq.f t541 t542 t562 t563).bind fun t583 => (if t583 = true then ((impl_RangeLeq.f t543 t544 t562 t563).bind fun t584 => (laws_FnRangeOrder.j5 kj137 (!t584) t556 t557)) else (laws_FnRangeOrder.j5 kj137 true t556 t557))) else (laws_FnRangeOrder.j5 kj137 false t556 t557)) else (laws_FnRangeOrder.j5 kj137 false t556 t557))) = some r := by rw [if_neg (show ¬ (false = true) by decide)] at H; exact H
                clear H; have H := H1; clear H1; have HC223 := Aside0.mk H; clear H
                go_upto_region 16 with (fail)
                go_cut [141] (fun v141 wc => ∃ (kq : Nat) (x141_222 : Bool), v141 = .bool x141_222 ∧ Aside0 (laws_FnRangeOrder.j5 kq x141_222 t556 t557 = some r) ∧ Aside0 (kq ≤ kj137) ∧ Aside0 (wc.heap[gb545]? = some (.cells #[.int .i64 t541, .int .i64 t542] 25 (0, 0))) ∧ Aside0 (wc.heap[gb546]? = some (.cells #[.int .i64 t543, .int .i64 t544] 25 (0, 0))) ∧ Aside0 (wc.heap[gb554]? = some (.cells #[.int .i64 t547, .int .i64 t548] 25 (0, 0))) ∧ Aside0 (wc.heap[gb555]? = some (.cells #[.int .i64 t549, .int .i64 t550] 25 (0, 0))) ∧ Aside0 (wc.heap[gb558]? = some (.cells #[.int .i64 t556, .int .i64 t557] 25 (0, 0))) ∧ Aside0 (wc.heap[gb561]? = some (.cells #[.int .i64 t559, .int .i64 t560] 25 (0, 0))) ∧ Aside0 (wc.heap[gb564]? = some (.cells #[.int .i64 t562, .int .i64 t563] 25 (0, 0))) ∧ Aside0 (Below w.heap.size w wc))
                case first =>
                 have H := HC223.out; clear HC223; replace H := Option.bind_eq_some_iff.mp H; obtain ⟨t582, A2240, H⟩ := H; (try dsimp only at H); have A224 := Aside0.mk A2240; clear A2240
                 by_cases c225 : (t582.size : Int) > 0
                 ·
                  rw [if_pos c225] at H; have c225b0 : decide (0 < (t582.size : Int)) = true := decide_eq_true c225; have c225b1 : decide (0 < t582.size) = true := decide_eq_true (by omega); clear c225
                  (first | rw [c225b0] | (simp only [i64_w, i32_w]; rw [c225b0]) | skip)
                  by_cases c226 : t562 ≤ t563
                  ·
                   rw [if_pos c226] at H; have c226b0 : decide (t562 ≤ t563) = true := decide_eq_true c226; clear c226; replace H := Option.bind_eq_some_iff.mp H; obtain ⟨t583, A2270, H⟩ := H; (try dsimp only at H); have A227 := Aside0.mk A2270; clear A2270
                   by_cases c228 : t583 = true
                   ·
                    subst c228; have H1 : ((impl_RangeLeq.f t543 t544 t562 t563).bind fun t584 => (laws_FnRangeOrder.j5 kj137 (!t584) t556 t557)) = some r := by rw [if_pos rfl] at H; exact H
                    clear H; have H := H1; clear H1; replace H := Option.bind_eq_some_iff.mp H; obtain ⟨t584, A2290, H⟩ := H; replace H : (laws_FnRangeOrder.j5 kj137 (!t584) t556 t557) = some r := H; have A229 := Aside0.mk A2290; clear A2290
                    as_aux_lemma =>
                     have H' := Aside0.mk H; clear H; have hnb230 := NB564_545.out; have hnc230 := NB545_564.out; have hnb231 := NB564_546.out; have hnc231 := NB546_564.out; have hnb232 := NB564_554.out; have hnc232 := NB554_564.out; have hnb233 := NB564_555.out; have hnc233 := NB555_564.out; have hnb234 := NB564_558.out; have hnc234 := NB558_564.out; have hnb235 := NB564_561.out; have hnc235 := NB561_564.out; have hcz236_0 := cl_ (v := .int .i64 t562) BK564 0; have hcz236_1 := cl_ (v := .int .i64 t563) BK564 1; have hfz236_0 := blk_frozen BK564.out 0; have hfz236_1 := blk_frozen BK564.out 1
                     go_wp2_with (first | ((with_reducible refine gate_callee (f := 30) rfl ?_); refine gl_ 120 Tryd.func30 #[.agg #[.int .i64 t562, .int .i64 t563]] (h := ?_); (with_reducible refine (spec_RangeText.calls kj137 t562 t563 t582 _ A224.out).mono ?_); rintro e w237 ⟨rfl, hb⟩; refine ⟨_, rfl, ?_⟩; replace BK545 := bb_ BK545 hb; replace BK546 := bb_ BK546 hb; replace BK554 := bb_ BK554 hb; replace BK555 := bb_ BK555 hb; replace BK558 := bb_ BK558 hb; replace BK561 := bb_ BK561 hb; replace BK564 := bb_ BK564 hb; replace HB := hb7_ HB hb GE545 GE546 GE554 GE555 GE558 GE561 GE564; (try clear hb); (try clear hb2); (try clear hk); (try clear hi); have hcz238_0 := cl_ (v := .int .i64 t562) BK564 0; have hcz238_1 := cl_ (v := .int .i64 t563) BK564 1; have hfz238_0 := blk_frozen BK564.out 0; have hfz238_1 := blk_frozen BK564.out 1; have hnb239 := NB545_546.out; have hnc239 := NB546_545.out; have hnb240 := NB545_554.out; have hnc240 := NB554_545.out; have hnb241 := NB545_555.out; have hnc241 := NB555_545.out; have hnb242 := NB545_558.out; have hnc242 := NB558_545.out; have hnb243 := NB545_561.out; have hnc243 := NB561_545.out; have hcz244_0 := cl_ (v := .int .i64 t541) BK545 0; have hcz244_1 := cl_ (v := .int .i64 t542) BK545 1; have hfz244_0 := blk_frozen BK545.out 0; have hfz244_1 := blk_frozen BK545.out 1) | (go_at_call 28; (with_reducible refine (impl_RangeLeq.calls t541 t542 t562 t563 true _ ?side1 A227.out).mono ?_); (case side1 => exact GL0.below HG0.out (sq_below7 HB.out GE545.out GE546.out GE554.out GE555.out GE558.out GE561.out GE564.out)); rintro e w245 ⟨rfl, hb⟩; replace BK545 := bb_ BK545 hb; replace BK546 := bb_ BK546 hb; replace BK554 := bb_ BK554 hb; replace BK555 := bb_ BK555 hb; replace BK558 := bb_ BK558 hb; replace BK561 := bb_ BK561 hb; replace BK564 := bb_ BK564 hb; replace HB := hb7_ HB hb GE545 GE546 GE554 GE555 GE558 GE561 GE564; (try clear hb); (try clear hb2); (try clear hk); (try clear hi); have hnb246 := NB546_554.out; have hnc246 := NB554_546.out; have hnb247 := NB546_555.out; have hnc247 := NB555_546.out; have hnb248 := NB546_558.out; have hnc248 := NB558_546.out; have hnb249 := NB546_561.out; have hnc249 := NB561_546.out; have hcz250_0 := cl_ (v := .int .i64 t543) BK546 0; have hcz250_1 := cl_ (v := .int .i64 t544) BK546 1; have hfz250_0 := blk_frozen BK546.out 0; have hfz250_1 := blk_frozen BK546.out 1; have hcz251_0 := cl_ (v := .int .i64 t562) BK564 0; have hcz251_1 := cl_ (v := .int .i64 t563) BK564 1; have hfz251_0 := blk_frozen BK564.out 0; have hfz251_1 := blk_frozen BK564.out 1) | (go_at_call 28; (with_reducible refine (impl_RangeLeq.calls t543 t544 t562 t563 t584 _ ?side1 A229.out).mono ?_); (case side1 => exact GL0.below HG0.out (sq_below7 HB.out GE545.out GE546.out GE554.out GE555.out GE558.out GE561.out GE564.out)); rintro e w252 ⟨rfl, hb⟩; replace BK545 := bb_ BK545 hb; replace BK546 := bb_ BK546 hb; replace BK554 := bb_ BK554 hb; replace BK555 := bb_ BK555 hb; replace BK558 := bb_ BK558 hb; replace BK561 := bb_ BK561 hb; replace BK564 := bb_ BK564 hb; replace HB := hb7_ HB hb GE545 GE546 GE554 GE555 GE558 GE561 GE564; (try clear hb); (try clear hb2); (try clear hk); (try clear hi)))
                     go_meet
                     case rel => exact ⟨_, (!t584), (by first | rfl | (simp; done) | (simp [*]; done)), H', ⟨by have := HJ2.out; have := HJ12.out; have := HJ78.out; have := HJ106.out; have := HJ137.out; first | omega | exact Nat.le_refl _⟩, bk_ BK545, bk_ BK546, bk_ BK554, bk_ BK555, bk_ BK558, bk_ BK561, bk_ BK564, ⟨by repeat (first | (with_reducible first | exact HB.out | apply below_alloc | apply pw_below_drewN | apply below_drew1 | refine below_set ?_ GE545.out | refine below_set ?_ GE546.out | refine below_set ?_ GE554.out | refine below_set ?_ GE555.out | refine below_set ?_ GE558.out | refine below_set ?_ GE561.out | refine below_set ?_ GE564.out) | exact HB.out)⟩⟩
                   ·
                    replace c228 := Bool.eq_false_iff.mpr c228; subst c228; have H1 : (laws_FnRangeOrder.j5 kj137 true t556 t557) = some r := by rw [if_neg (show ¬ (false = true) by decide)] at H; exact H
                    clear H; have H := H1; clear H1
                    as_aux_lemma =>
                     have H' := Aside0.mk H; clear H; have hnb253 := NB564_545.out; have hnc253 := NB545_564.out; have hnb254 := NB564_546.out; have hnc254 := NB546_564.out; have hnb255 := NB564_554.out; have hnc255 := NB554_564.out; have hnb256 := NB564_555.out; have hnc256 := NB555_564.out; have hnb257 := NB564_558.out; have hnc257 := NB558_564.out; have hnb258 := NB564_561.out; have hnc258 := NB561_564.out; have hcz259_0 := cl_ (v := .int .i64 t562) BK564 0; have hcz259_1 := cl_ (v := .int .i64 t563) BK564 1; have hfz259_0 := blk_frozen BK564.out 0; have hfz259_1 := blk_frozen BK564.out 1
                     go_wp2_with (first | ((with_reducible refine gate_callee (f := 30) rfl ?_); refine gl_ 120 Tryd.func30 #[.agg #[.int .i64 t562, .int .i64 t563]] (h := ?_); (with_reducible refine (spec_RangeText.calls kj137 t562 t563 t582 _ A224.out).mono ?_); rintro e w260 ⟨rfl, hb⟩; refine ⟨_, rfl, ?_⟩; replace BK545 := bb_ BK545 hb; replace BK546 := bb_ BK546 hb; replace BK554 := bb_ BK554 hb; replace BK555 := bb_ BK555 hb; replace BK558 := bb_ BK558 hb; replace BK561 := bb_ BK561 hb; replace BK564 := bb_ BK564 hb; replace HB := hb7_ HB hb GE545 GE546 GE554 GE555 GE558 GE561 GE564; (try clear hb); (try clear hb2); (try clear hk); (try clear hi); have hcz261_0 := cl_ (v := .int .i64 t562) BK564 0; have hcz261_1 := cl_ (v := .int .i64 t563) BK564 1; have hfz261_0 := blk_frozen BK564.out 0; have hfz261_1 := blk_frozen BK564.out 1; have hnb262 := NB545_546.out; have hnc262 := NB546_545.out; have hnb263 := NB545_554.out; have hnc263 := NB554_545.out; have hnb264 := NB545_555.out; have hnc264 := NB555_545.out; have hnb265 := NB545_558.out; have hnc265 := NB558_545.out; have hnb266 := NB545_561.out; have hnc266 := NB561_545.out; have hcz267_0 := cl_ (v := .int .i64 t541) BK545 0; have hcz267_1 := cl_ (v := .int .i64 t542) BK545 1; have hfz267_0 := blk_frozen BK545.out 0; have hfz267_1 := blk_frozen BK545.out 1) | (go_at_call 28; (with_reducible refine (impl_RangeLeq.calls t541 t542 t562 t563 false _ ?side1 A227.out).mono ?_); (case side1 => exact GL0.below HG0.out (sq_below7 HB.out GE545.out GE546.out GE554.out GE555.out GE558.out GE561.out GE564.out)); rintro e w268 ⟨rfl, hb⟩; replace BK545 := bb_ BK545 hb; replace BK546 := bb_ BK546 hb; replace BK554 := bb_ BK554 hb; replace BK555 := bb_ BK555 hb; replace BK558 := bb_ BK558 hb; replace BK561 := bb_ BK561 hb; replace BK564 := bb_ BK564 hb; replace HB := hb7_ HB hb GE545 GE546 GE554 GE555 GE558 GE561 GE564; (try clear hb); (try clear hb2); (try clear hk); (try clear hi)))
                     go_meet
                     case rel => exact ⟨_, (true), (by first | rfl | (simp; done) | (simp [*]; done)), H', ⟨by have := HJ2.out; have := HJ12.out; have := HJ78.out; have := HJ106.out; have := HJ137.out; first | omega | exact Nat.le_refl _⟩, bk_ BK545, bk_ BK546, bk_ BK554, bk_ BK555, bk_ BK558, bk_ BK561, bk_ BK564, ⟨by repeat (first | (with_reducible first | exact HB.out | apply below_alloc | apply pw_below_drewN | apply below_drew1 | refine below_set ?_ GE545.out | refine below_set ?_ GE546.out | refine below_set ?_ GE554.out | refine below_set ?_ GE555.out | refine below_set ?_ GE558.out | refine below_set ?_ GE561.out | refine below_set ?_ GE564.out) | exact HB.out)⟩⟩
                  ·
                   rw [if_neg c226] at H; have c226b0 : decide (t562 ≤ t563) = false := decide_eq_false c226; clear c226
                   as_aux_lemma =>
                    have H' := Aside0.mk H; clear H; have hnb269 := NB564_545.out; have hnc269 := NB545_564.out; have hnb270 := NB564_546.out; have hnc270 := NB546_564.out; have hnb271 := NB564_554.out; have hnc271 := NB554_564.out; have hnb272 := NB564_555.out; have hnc272 := NB555_564.out; have hnb273 := NB564_558.out; have hnc273 := NB558_564.out; have hnb274 := NB564_561.out; have hnc274 := NB561_564.out; have hcz275_0 := cl_ (v := .int .i64 t562) BK564 0; have hcz275_1 := cl_ (v := .int .i64 t563) BK564 1; have hfz275_0 := blk_frozen BK564.out 0; have hfz275_1 := blk_frozen BK564.out 1
                    go_wp2_with (first | ((with_reducible refine gate_callee (f := 30) rfl ?_); refine gl_ 120 Tryd.func30 #[.agg #[.int .i64 t562, .int .i64 t563]] (h := ?_); (with_reducible refine (spec_RangeText.calls kj137 t562 t563 t582 _ A224.out).mono ?_); rintro e w276 ⟨rfl, hb⟩; refine ⟨_, rfl, ?_⟩; replace BK545 := bb_ BK545 hb; replace BK546 := bb_ BK546 hb; replace BK554 := bb_ BK554 hb; replace BK555 := bb_ BK555 hb; replace BK558 := bb_ BK558 hb; replace BK561 := bb_ BK561 hb; replace BK564 := bb_ BK564 hb; replace HB := hb7_ HB hb GE545 GE546 GE554 GE555 GE558 GE561 GE564; (try clear hb); (try clear hb2); (try clear hk); (try clear hi); have hcz277_0 := cl_ (v := .int .i64 t562) BK564 0; have hcz277_1 := cl_ (v := .int .i64 t563) BK564 1; have hfz277_0 := blk_frozen BK564.out 0; have hfz277_1 := blk_frozen BK564.out 1))
                    go_meet
                    case rel => exact ⟨_, (false), (by first | rfl | (simp; done) | (simp [*]; done)), H', ⟨by have := HJ2.out; have := HJ12.out; have := HJ78.out; have := HJ106.out; have := HJ137.out; first | omega | exact Nat.le_refl _⟩, bk_ BK545, bk_ BK546, bk_ BK554, bk_ BK555, bk_ BK558, bk_ BK561, bk_ BK564, ⟨by repeat (first | (with_reducible first | exact HB.out | apply below_alloc | apply pw_below_drewN | apply below_drew1 | refine below_set ?_ GE545.out | refine below_set ?_ GE546.out | refine below_set ?_ GE554.out | refine below_set ?_ GE555.out | refine below_set ?_ GE558.out | refine below_set ?_ GE561.out | refine below_set ?_ GE564.out) | exact HB.out)⟩⟩
                 ·
                  rw [if_neg c225] at H; have c225b0 : decide (0 < (t582.size : Int)) = false := decide_eq_false c225; have c225b1 : decide (0 < t582.size) = false := decide_eq_false (by omega); clear c225
                  (first | rw [c225b0] | (simp only [i64_w, i32_w]; rw [c225b0]) | skip)
                  as_aux_lemma =>
                   have H' := Aside0.mk H; clear H; have hnb278 := NB564_545.out; have hnc278 := NB545_564.out; have hnb279 := NB564_546.out; have hnc279 := NB546_564.out; have hnb280 := NB564_554.out; have hnc280 := NB554_564.out; have hnb281 := NB564_555.out; have hnc281 := NB555_564.out; have hnb282 := NB564_558.out; have hnc282 := NB558_564.out; have hnb283 := NB564_561.out; have hnc283 := NB561_564.out; have hcz284_0 := cl_ (v := .int .i64 t562) BK564 0; have hcz284_1 := cl_ (v := .int .i64 t563) BK564 1; have hfz284_0 := blk_frozen BK564.out 0; have hfz284_1 := blk_frozen BK564.out 1
                   go_wp2_with (first | ((with_reducible refine gate_callee (f := 30) rfl ?_); refine gl_ 120 Tryd.func30 #[.agg #[.int .i64 t562, .int .i64 t563]] (h := ?_); (with_reducible refine (spec_RangeText.calls kj137 t562 t563 t582 _ A224.out).mono ?_); rintro e w285 ⟨rfl, hb⟩; refine ⟨_, rfl, ?_⟩; replace BK545 := bb_ BK545 hb; replace BK546 := bb_ BK546 hb; replace BK554 := bb_ BK554 hb; replace BK555 := bb_ BK555 hb; replace BK558 := bb_ BK558 hb; replace BK561 := bb_ BK561 hb; replace BK564 := bb_ BK564 hb; replace HB := hb7_ HB hb GE545 GE546 GE554 GE555 GE558 GE561 GE564; (try clear hb); (try clear hb2); (try clear hk); (try clear hi)))
                   go_meet
                   case rel => exact ⟨_, (false), (by first | rfl | (simp; done) | (simp [*]; done)), H', ⟨by have := HJ2.out; have := HJ12.out; have := HJ78.out; have := HJ106.out; have := HJ137.out; first | omega | exact Nat.le_refl _⟩, bk_ BK545, bk_ BK546, bk_ BK554, bk_ BK555, bk_ BK558, bk_ BK561, bk_ BK564, ⟨by repeat (first | (with_reducible first | exact HB.out | apply below_alloc | apply pw_below_drewN | apply below_drew1 | refine below_set ?_ GE545.out | refine below_set ?_ GE546.out | refine below_set ?_ GE554.out | refine below_set ?_ GE555.out | refine below_set ?_ GE558.out | refine below_set ?_ GE561.out | refine below_set ?_ GE564.out) | exact HB.out)⟩⟩
                case rest =>
                 clear HC223
                 try clear c1
                 try clear c2
                 try clear p2
                 try clear c3
                 try clear c10
                 try clear c11
                 try clear c13
                 try clear c14
                 try clear c15
                 try clear c16
                 try clear c17
                 try clear c18
                 try clear c19
                 try clear c20
                 try clear c21
                 try clear c22
                 try clear c23
                 try clear c24
                 try clear c25
                 try clear c26
                 try clear c27
                 try clear c28
                 try clear c30
                 try clear c109
                 try clear c111
                 try clear c137
                 try clear c140
                 try clear c142
                 try clear c144
                 try clear c146
                 try clear c147
                 try clear c148
                 try clear c149
                 try clear c150
                 try clear c151
                 try clear c154
                 try clear c155
                 try clear c156
                 try clear c157
                 try clear c158
                 try clear c162
                 try clear c163
                 try clear c164
                 try clear c165
                 try clear c169
                 try clear c170
                 try clear c171
                 try clear c175
                 try clear c176
                 try clear c177
                 try clear c178
                 try clear c179
                 try clear c180
                 try clear c183
                 try clear c184
                 try clear c185
                 try clear c186
                 try clear c187
                 try clear c191
                 try clear c192
                 try clear c193
                 try clear c194
                 try clear c198
                 try clear c199
                 try clear c200
                 try clear c201
                 try clear c202
                 try clear c203
                 try clear c206
                 try clear c207
                 try clear c208
                 try clear c209
                 try clear c210
                 try clear c214
                 try clear c215
                 try clear c216
                 try clear c217
                 try clear c218
                 try clear c219
                 try clear c222
                 try clear c225
                 try clear c225b0
                 try clear c225b1
                 try clear c226
                 try clear c226b0
                 try clear c228
                 try clear c230
                 try clear c231
                 try clear c232
                 try clear c233
                 try clear c234
                 try clear c235
                 try clear c239
                 try clear c240
                 try clear c241
                 try clear c242
                 try clear c243
                 try clear c246
                 try clear c247
                 try clear c248
                 try clear c249
                 try clear c253
                 try clear c254
                 try clear c255
                 try clear c256
                 try clear c257
                 try clear c258
                 try clear c262
                 try clear c263
                 try clear c264
                 try clear c265
                 try clear c266
                 try clear c269
                 try clear c270
                 try clear c271
                 try clear c272
                 try clear c273
                 try clear c274
                 try clear c278
                 try clear c279
                 try clear c280
                 try clear c281
                 try clear c282
                 try clear c283
                 try clear hcz152_0
                 try clear hcz152_1
                 try clear hcz159_0
                 try clear hcz159_1
                 try clear hcz160_0
                 try clear hcz160_1
                 try clear hcz166_0
                 try clear hcz166_1
                 try clear hcz167_0
                 try clear hcz167_1
                 try clear hcz172_0
                 try clear hcz172_1
                 try clear hcz173_0
                 try clear hcz173_1
                 try clear hcz181_0
                 try clear hcz181_1
                 try clear hcz188_0
                 try clear hcz188_1
                 try clear hcz189_0
                 try clear hcz189_1
                 try clear hcz195_0
                 try clear hcz195_1
                 try clear hcz196_0
                 try clear hcz196_1
                 try clear hcz204_0
                 try clear hcz204_1
                 try clear hcz211_0
                 try clear hcz211_1
                 try clear hcz212_0
                 try clear hcz212_1
                 try clear hcz220_0
                 try clear hcz220_1
                 try clear hcz236_0
                 try clear hcz236_1
                 try clear hcz238_0
                 try clear hcz238_1
                 try clear hcz244_0
                 try clear hcz244_1
                 try clear hcz250_0
                 try clear hcz250_1
                 try clear hcz251_0
                 try clear hcz251_1
                 try clear hcz259_0
                 try clear hcz259_1
                 try clear hcz261_0
                 try clear hcz261_1
                 try clear hcz267_0
                 try clear hcz267_1
                 try clear hcz275_0
                 try clear hcz275_1
                 try clear hcz277_0
                 try clear hcz277_1
                 try clear hcz284_0
                 try clear hcz284_1
                 try clear hfz152_0
                 try clear hfz152_1
                 try clear hfz159_0
                 try clear hfz159_1
                 try clear hfz160_0
                 try clear hfz160_1
                 try clear hfz166_0
                 try clear hfz166_1
                 try clear hfz167_0
                 try clear hfz167_1
                 try clear hfz172_0
                 try clear hfz172_1
                 try clear hfz173_0
                 try clear hfz173_1
                 try clear hfz181_0
                 try clear hfz181_1
                 try clear hfz188_0
                 try clear hfz188_1
                 try clear hfz189_0
                 try clear hfz189_1
                 try clear hfz195_0
                 try clear hfz195_1
                 try clear hfz196_0
                 try clear hfz196_1
                 try clear hfz204_0
                 try clear hfz204_1
                 try clear hfz211_0
                 try clear hfz211_1
                 try clear hfz212_0
                 try clear hfz212_1
                 try clear hfz220_0
                 try clear hfz220_1
                 try clear hfz236_0
                 try clear hfz236_1
                 try clear hfz238_0
                 try clear hfz238_1
                 try clear hfz244_0
                 try clear hfz244_1
                 try clear hfz250_0
                 try clear hfz250_1
                 try clear hfz251_0
                 try clear hfz251_1
                 try clear hfz259_0
                 try clear hfz259_1
                 try clear hfz261_0
                 try clear hfz261_1
                 try clear hfz267_0
                 try clear hfz267_1
                 try clear hfz275_0
                 try clear hfz275_1
                 try clear hfz277_0
                 try clear hfz277_1
                 try clear hfz284_0
                 try clear hfz284_1
                 try clear p2
                 obtain ⟨kq, x141_222, rfl, HA, HJ222, BK545, BK546, BK554, BK555, BK558, BK561, BK564, HB⟩ := hcut; cases kq with
                 | zero => exact absurd HA.out (by simp [laws_FnRangeOrder.j5])
                 | succ kj222 =>
                  have H := HA.out; clear HA; simp only [laws_FnRangeOrder.j5] at H
                  by_cases c286 : x141_222 = true
                  ·
                   subst c286; have H1 : (some false) = some r := by rw [if_pos rfl] at H; exact H
                   clear H; have H := H1; clear H1
                   as_aux_lemma =>
                    exact absurd ((Option.some.inj H).trans hr_) Bool.false_ne_true
                  ·
                   replace c286 := Bool.eq_false_iff.mpr c286; subst c286; have H1 : ((impl_RangeText.f t556 t557).bind fun t585 => ((impl_RangeRead.f t585).bind fun bt586 => (if bt586.2.2 = true then (some (bt586.1 == t556 && (bt586.2.1 == t557))) else (some false)))) = some r := by rw [if_neg (show ¬ (false = true) by decide)] at H; exact H
                   clear H; have H := H1; clear H1; replace H := Option.bind_eq_some_iff.mp H; obtain ⟨t585, A2870, H⟩ := H; (try dsimp only at H); have A287 := Aside0.mk A2870; clear A2870; replace H := Option.bind_eq_some_iff.mp H; obtain ⟨⟨t586, t587, t588⟩, A2880, H⟩ := H; (try dsimp only at H); have A288 := Aside0.mk A2880; clear A2880
                   by_cases c289 : t588 = true
                   ·
                    subst c289; have H1 : (some (t586 == t556 && (t587 == t557))) = some r := by rw [if_pos rfl] at H; exact H
                    clear H; have H := H1; clear H1
                    as_aux_lemma =>
                     obtain rfl := Option.some.inj H; have hcz290_0 := cl_ (v := .int .i64 t556) BK558 0; have hcz290_1 := cl_ (v := .int .i64 t557) BK558 1; have hfz290_0 := blk_frozen BK558.out 0; have hfz290_1 := blk_frozen BK558.out 1
                     go_wp2_with (first | ((with_reducible refine gate_callee (f := 32) rfl ?_); refine gl_ 144 Tryd.func32 #[.agg #[.int .i64 t556, .int .i64 t557]] (h := ?_); (with_reducible refine (impl_RangeText.calls t556 t557 t585 _ ?side1 ?side2 A287.out).mono ?_); (case side1 => exact GL0.below HG0.out (sq_below1 HB.out GE558.out)); (case side2 => exact GL5.below HG5.out (sq_below1 HB.out GE558.out)); rintro e w291 ⟨rfl, hb⟩; refine ⟨_, rfl, ?_⟩; replace BK558 := bb_ BK558 hb; replace HB := hb1_ HB hb GE558; (try clear hb); (try clear hb2); (try clear hk); (try clear hi)) | ((with_reducible refine gate_callee (f := 31) rfl ?_); refine gl_ 145 Tryd.func31 #[.string t585] (h := ?_); (with_reducible refine (impl_RangeRead.calls t585 t586 t587 true _ ?side1 ?side2 ?side3 ?side4 ?side5 A288.out).mono ?_); (case side1 => exact GL0.below HG0.out (sq_below1 HB.out GE558.out)); (case side2 => exact GL2.below HG2.out (sq_below1 HB.out GE558.out)); (case side3 => exact GL3.below HG3.out (sq_below1 HB.out GE558.out)); (case side4 => exact GL4.below HG4.out (sq_below1 HB.out GE558.out)); (case side5 => exact GL5.below HG5.out (sq_below1 HB.out GE558.out)); rintro e w292 ⟨rfl, hb⟩; refine ⟨_, rfl, ?_⟩; replace BK558 := bb_ BK558 hb; replace HB := hb1_ HB hb GE558; (try clear hb); (try clear hb2); (try clear hk); (try clear hi)) | ((with_reducible refine gate_dst (N := 13) rfl ?_); refine box_event ?hg (N := 13) ?hd (cs := #[.int .i64 0, .int .i64 0]) (t := 25) ?hr ?_; (case hd => rfl); (case hg => rfl); (case hr => first | (go_simp; done) | (go_simp; rfl)); intro gb589 hg w293 hbox hb; have n0_ := Aside0.mk (blk_below (sq_blk BK558.out) hb); have n1_ := Aside0.mk (below_step (sq_below1 HB.out GE558.out) hb); have n2_ := Aside0.mk (hbox); have n3_ := Aside0.mk ((by rw [hg]; exact (below_size (sq_below1 HB.out GE558.out)) : w.heap.size ≤ gb589)); have n4_ := Aside0.mk ((by rw [hg]; exact (below_size (sq_below1 HB.out GE558.out)) : w.heap.size ≤ gb589)); have n5_ := Aside0.mk ((by rw [hg]; exact Nat.ne_of_lt (blk_lt (g := gb558) (o := .cells #[.int .i64 t556, .int .i64 t557] 25 (0, 0)) (sq_blk BK558.out)) : gb558 ≠ gb589)); have n6_ := Aside0.mk (Ne.symm n5_.out); clear BK558; clear HB; have BK558 := n0_; have HB := n1_; have BK589 := n2_; have GW589 := n3_; have GE589 := n4_; have NB558_589 := n5_; have NB589_558 := n6_; clear n0_ n1_ n2_ n3_ n4_ n5_ n6_; clear hb hbox hg; have hnb294 := NB589_558.out; have hnc294 := NB558_589.out; have hcz295_0 := cl_ (v := .int .i64 0) BK589 0; have hcz295_1 := cl_ (v := .int .i64 0) BK589 1; have hfz295_0 := blk_frozen BK589.out 0; have hfz295_1 := blk_frozen BK589.out 1; have hcz296_0 := cl_ (v := .int .i64 t556) BK558 0; have hcz296_1 := cl_ (v := .int .i64 t557) BK558 1; have hfz296_0 := blk_frozen BK558.out 0; have hfz296_1 := blk_frozen BK558.out 1))
                     go_ret
                     exact ⟨by first | rfl | (simp [errW_none, errW_some] <;> rfl) | (simp [*, errW_none, errW_some] <;> rfl), by repeat (first | (with_reducible first | exact HB.out | apply below_alloc | apply pw_below_drewN | apply below_drew1 | refine below_set ?_ GE558.out | refine below_set ?_ GE589.out) | exact HB.out)⟩
                   ·
                    replace c289 := Bool.eq_false_iff.mpr c289; subst c289; have H1 : (some false) = some r := by rw [if_neg (show ¬ (false = true) by decide)] at H; exact H
                    clear H; have H := H1; clear H1
                    as_aux_lemma =>
                     exact absurd ((Option.some.inj H).trans hr_) Bool.false_ne_true

end Go.Proofs.YtmibaaicadgchaaDoor.Q
