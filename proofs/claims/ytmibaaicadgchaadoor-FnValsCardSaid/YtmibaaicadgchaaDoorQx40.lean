/- Functions of the translation as Lean functions, each with a proof that a call answers so; out of the seat, by this claim's own program prt.py. -/
import Derived.Test.YtmibaaicadgchaaDoorWTab
import Derived.Test.YtmibaaicadgchaaDoorWRepsOne
import Derived.Test.YtmibaaicadgchaaDoorQx0
import Derived.Test.YtmibaaicadgchaaDoorQx2
import Derived.Test.YtmibaaicadgchaaDoorQx3
import Derived.Test.YtmibaaicadgchaaDoorQx20
import Derived.Test.YtmibaaicadgchaaDoorQx30
import Derived.Test.YtmibaaicadgchaaDoorQx31
import Derived.Test.YtmibaaicadgchaaDoorQx33
import Derived.Test.YtmibaaicadgchaaDoorQx34
import Derived.Test.YtmibaaicadgchaaDoorQx35
import Derived.Test.YtmibaaicadgchaaDoorQx36
import Derived.Test.YtmibaaicadgchaaDoorQx37
import Derived.Test.YtmibaaicadgchaaDoorQx38
import Derived.Test.YtmibaaicadgchaaDoorQx39
import Derived.Test.YtmibaaicadgchaaDoorQStep
namespace Go.Proofs.YtmibaaicadgchaaDoor.Q
open Go.RowKit Go.Proofs.YtmibaaicadgchaaDoorW.PrintWords Go.Proofs.YtmibaaicadgchaaDoorW.PrintLast Go.Proofs.YtmibaaicadgchaaDoorW.PrintMore
attribute [local go_sem] max2_int min2_int max_two min_two max_three min_three max_four min_four   -- for this text's walks alone
set_option linter.unusedVariables false
set_option linter.unusedSimpArgs false

attribute [local go_sem high] eqA44
/-! ### laws_FnVals: function 5 -/
abbrev laws_FnVals.b0_ : Array Bool := #[false, false, false, false, false, false, false, false, false, false, false, false, false, false, false, false, false, false, false, false, false, false]
abbrev laws_FnVals.b1_ : Array Bool := #[true, false, false, false, false, false, false, false, false, false, false, false, false, false, false, false, false, false, false, false, false, false]
abbrev laws_FnVals.b2_ : Array Bool := #[true, true, false, false, false, false, false, false, false, false, false, false, false, false, false, false, false, false, false, false, false, false]
abbrev laws_FnVals.b3_ : Array Bool := #[true, true, true, false, false, false, false, false, false, false, false, false, false, false, false, false, false, false, false, false, false, false]
abbrev laws_FnVals.b4_ : Array Bool := #[true, true, true, true, false, false, false, false, false, false, false, false, false, false, false, false, false, false, false, false, false, false]
abbrev laws_FnVals.b5_ : Array Bool := #[true, true, true, true, true, false, false, false, false, false, false, false, false, false, false, false, false, false, false, false, false, false]
abbrev laws_FnVals.b6_ : Array Bool := #[true, true, true, true, true, true, false, false, false, false, false, false, false, false, false, false, false, false, false, false, false, false]
abbrev laws_FnVals.b7_ : Array Bool := #[true, true, true, true, true, true, false, false, false, true, false, false, false, false, false, false, false, false, false, false, false, false]
abbrev laws_FnVals.b8_ : Array Bool := #[true, true, true, true, true, true, true, false, false, true, false, false, false, false, false, false, false, false, false, false, false, false]
abbrev laws_FnVals.b9_ : Array Bool := #[true, true, true, true, true, true, true, true, false, true, false, false, false, false, false, false, false, false, false, false, false, false]
abbrev laws_FnVals.b10_ : Array Bool := #[true, true, true, true, true, true, true, true, true, true, false, false, false, false, false, false, false, false, false, false, false, false]
abbrev laws_FnVals.b11_ : Array Bool := #[true, true, true, true, true, true, true, true, true, true, true, false, false, false, false, false, false, false, false, false, false, false]
abbrev laws_FnVals.b12_ : Array Bool := #[true, true, true, true, true, true, true, true, true, true, true, true, false, false, false, false, false, false, false, false, false, false]
abbrev laws_FnVals.b13_ : Array Bool := #[true, true, true, true, true, true, true, true, true, true, true, true, true, false, false, false, false, false, false, false, false, false]
abbrev laws_FnVals.b14_ : Array Bool := #[true, true, true, true, true, true, true, true, true, true, true, true, true, true, false, false, false, false, false, false, false, false]
abbrev laws_FnVals.b15_ : Array Bool := #[true, true, true, true, true, true, true, true, true, true, true, true, true, true, true, false, false, false, false, false, false, false]
abbrev laws_FnVals.b16_ : Array Bool := #[true, true, true, true, true, true, true, true, true, true, true, true, true, true, true, true, false, false, false, false, false, false]
abbrev laws_FnVals.b17_ : Array Bool := #[true, true, true, true, true, true, true, true, true, true, true, true, true, true, true, true, true, false, false, false, false, false]
abbrev laws_FnVals.b18_ : Array Bool := #[true, true, true, true, true, true, true, true, true, true, true, true, true, true, true, true, true, true, false, false, false, false]
abbrev laws_FnVals.b19_ : Array Bool := #[true, true, true, true, true, true, true, true, true, true, true, true, true, true, true, true, true, true, true, false, false, false]
abbrev laws_FnVals.b20_ : Array Bool := #[true, true, true, true, true, true, true, true, true, true, true, true, true, true, true, true, true, true, true, true, false, false]
abbrev laws_FnVals.b21_ : Array Bool := #[true, true, true, true, true, true, true, true, true, true, true, true, true, true, true, true, true, true, true, true, true, false]
abbrev laws_FnVals.b22_ : Array Bool := #[true, true, true, true, true, true, true, true, true, true, true, true, true, true, true, true, true, true, true, true, true, true]
abbrev laws_FnVals.b23_ : Array Bool := #[false, false, false, false, false, false, false, false, false, false, false, false, false, false, false, false, false]
abbrev laws_FnVals.b24_ : Array Bool := #[true, false, false, false, false, false, false, false, false, false, false, false, false, false, false, false, false]
abbrev laws_FnVals.b25_ : Array Bool := #[true, true, false, false, false, false, false, false, false, false, false, false, false, false, false, false, false]
abbrev laws_FnVals.b26_ : Array Bool := #[true, true, false, false, false, false, false, false, true, false, false, false, false, false, false, false, false]
abbrev laws_FnVals.b27_ : Array Bool := #[true, true, false, false, false, false, false, false, true, true, false, false, false, false, false, false, false]
abbrev laws_FnVals.b28_ : Array Bool := #[true, true, true, false, false, false, false, false, true, true, false, false, false, false, false, false, false]
abbrev laws_FnVals.b29_ : Array Bool := #[true, true, true, true, false, false, false, false, true, true, false, false, false, false, false, false, false]
abbrev laws_FnVals.b30_ : Array Bool := #[true, true, true, true, true, false, false, false, true, true, false, false, false, false, false, false, false]
abbrev laws_FnVals.b31_ : Array Bool := #[true, true, true, true, true, true, false, false, true, true, false, false, false, false, false, false, false]
abbrev laws_FnVals.b32_ : Array Bool := #[true, true, true, true, true, true, true, false, true, true, false, false, false, false, false, false, false]
abbrev laws_FnVals.b33_ : Array Bool := #[true, true, true, true, true, true, true, true, true, true, false, false, false, false, false, false, false]
abbrev laws_FnVals.b34_ : Array Bool := #[true, true, true, true, true, true, true, true, true, true, true, false, false, false, false, false, false]
abbrev laws_FnVals.b35_ : Array Bool := #[true, true, true, true, true, true, true, true, true, true, true, true, false, false, false, false, false]
abbrev laws_FnVals.b36_ : Array Bool := #[true, true, true, true, true, true, true, true, true, true, true, true, true, false, false, false, false]
abbrev laws_FnVals.b37_ : Array Bool := #[true, true, true, true, true, true, true, true, true, true, true, true, true, true, false, false, false]
abbrev laws_FnVals.b38_ : Array Bool := #[true, true, true, true, true, true, true, true, true, true, true, true, true, true, true, false, false]
abbrev laws_FnVals.b39_ : Array Bool := #[true, true, true, true, true, true, true, true, true, true, true, true, true, true, true, true, false]
abbrev laws_FnVals.b40_ : Array Bool := #[true, true, true, true, true, true, true, true, true, true, true, true, true, true, true, true, true]
mutual
def laws_FnVals.j0 : Nat → List Int → List Int → Bool → Option (Bool)
 | 0, _, _, _ => none
 | k + 1, x0, x1, x21 => if x21 = true then (some true) else ((spec_DrawValJoin.f k x0).bind fun bt734 => ((spec_DrawRangeWiden.f k x1).bind fun bt742 => ((spec_DrawValHas.f k x1).bind fun bt751 => ((impl_ValJoin.f k bt734.1 bt734.2.1 bt734.2.2.1 bt734.2.2.2.1 bt734.2.2.2.2.1 bt734.2.2.2.2.2).bind fun bt758 => ((impl_ValWiden.f k bt734.1 bt734.2.1 bt734.2.2.1 bt734.2.2.2.1 bt734.2.2.2.2.1 bt734.2.2.2.2.2 bt742.2.2.2.2).bind fun bt762 => ((spec_ValJoin.f k bt734.1 bt734.2.1 bt734.2.2.1 bt734.2.2.2.1 bt734.2.2.2.2.1 bt734.2.2.2.2.2).bind fun bt766 => (if ((!(bt758.1 == bt766.1) || (!(bt758.2.1 == bt766.2.1))) || (!(bt758.2.2 == bt766.2.2))) = true then (laws_FnVals.j1 k true bt734.1 bt734.2.1 bt734.2.2.1 bt734.2.2.2.1 bt734.2.2.2.2.1 bt734.2.2.2.2.2 bt751.2.2.2.1 bt751.2.2.2.2 bt758.1 bt758.2.1 bt758.2.2) else ((spec_ValWiden.f k bt734.1 bt734.2.1 bt734.2.2.1 bt734.2.2.2.1 bt734.2.2.2.2.1 bt734.2.2.2.2.2 bt742.2.2.2.2).bind fun bt769 => (if ((!(bt762.1 == bt769.1) || (!(bt762.2.1 == bt769.2.1))) || (!(bt762.2.2 == bt769.2.2))) = true then (laws_FnVals.j1 k true bt734.1 bt734.2.1 bt734.2.2.1 bt734.2.2.2.1 bt734.2.2.2.2.1 bt734.2.2.2.2.2 bt751.2.2.2.1 bt751.2.2.2.2 bt758.1 bt758.2.1 bt758.2.2) else ((impl_ValHas.f bt751.1 bt751.2.1 bt751.2.2.1 bt751.2.2.2.1 bt751.2.2.2.2).bind fun t772 => ((spec_ValHas.f bt751.1 bt751.2.1 bt751.2.2.1 bt751.2.2.2.1 bt751.2.2.2.2).bind fun t773 => (laws_FnVals.j1 k (t772 != t773) bt734.1 bt734.2.1 bt734.2.2.1 bt734.2.2.2.1 bt734.2.2.2.2.1 bt734.2.2.2.2.2 bt751.2.2.2.1 bt751.2.2.2.2 bt758.1 bt758.2.1 bt758.2.2))))))))))))
def laws_FnVals.j1 : Nat → Bool → Int → Int → Bool → Int → Int → Bool → Bool → Int → Int → Int → Bool → Option (Bool)
 | 0, _, _, _, _, _, _, _, _, _, _, _, _ => none
 | k + 1, x66, x741000, x741001, x741002, x742000, x742001, x742002, x758000, x758001, x762000, x762001, x762002 => if x66 = true then (some false) else ((spec_ValOk.f x741000 x741001 x741002).bind fun t774 => (if t774 = true then ((spec_ValOk.f x742000 x742001 x742002).bind fun t775 => (laws_FnVals.j2 k (!t775) x741000 x741001 x741002 x742000 x742001 x742002 x758000 x758001 x762000 x762001 x762002)) else (laws_FnVals.j2 k true x741000 x741001 x741002 x742000 x742001 x742002 x758000 x758001 x762000 x762001 x762002)))
def laws_FnVals.j2 : Nat → Bool → Int → Int → Bool → Int → Int → Bool → Bool → Int → Int → Int → Bool → Option (Bool)
 | 0, _, _, _, _, _, _, _, _, _, _, _, _ => none
 | k + 1, x74, x741000, x741001, x741002, x742000, x742001, x742002, x758000, x758001, x762000, x762001, x762002 => if x74 = true then (some true) else ((impl_ValHas.f x741000 x741001 x741002 x758000 x758001).bind fun t776 => (if t776 = true then ((spec_ValHas.f x741000 x741001 x741002 x758000 x758001).bind fun t777 => (if t777 = true then (laws_FnVals.j3 k (true != true) x741000 x741001 x741002 x742000 x742001 x742002 x758000 x758001 x762000 x762001 x762002) else ((spec_ValHas.f x742000 x742001 x742002 x758000 x758001).bind fun t778 => (laws_FnVals.j3 k (true != t778) x741000 x741001 x741002 x742000 x742001 x742002 x758000 x758001 x762000 x762001 x762002)))) else ((impl_ValHas.f x742000 x742001 x742002 x758000 x758001).bind fun t779 => ((spec_ValHas.f x741000 x741001 x741002 x758000 x758001).bind fun t780 => (if t780 = true then (laws_FnVals.j3 k (t779 != true) x741000 x741001 x741002 x742000 x742001 x742002 x758000 x758001 x762000 x762001 x762002) else ((spec_ValHas.f x742000 x742001 x742002 x758000 x758001).bind fun t781 => (laws_FnVals.j3 k (t779 != t781) x741000 x741001 x741002 x742000 x742001 x742002 x758000 x758001 x762000 x762001 x762002)))))))
def laws_FnVals.j3 : Nat → Bool → Int → Int → Bool → Int → Int → Bool → Bool → Int → Int → Int → Bool → Option (Bool)
 | 0, _, _, _, _, _, _, _, _, _, _, _, _ => none
 | k + 1, x91, x741000, x741001, x741002, x742000, x742001, x742002, x758000, x758001, x762000, x762001, x762002 => if x91 = true then (some false) else ((spec_ValHas.f x741000 x741001 x741002 x758000 x758001).bind fun t782 => (if t782 = true then ((impl_ValHas.f x762000 x762001 x762002 x758000 x758001).bind fun t783 => (laws_FnVals.j4 k (!t783) x741000 x741001 x741002 x742000 x742001 x742002 x762000 x762001 x762002)) else ((spec_ValHas.f x742000 x742001 x742002 x758000 x758001).bind fun t784 => (if t784 = true then ((impl_ValHas.f x762000 x762001 x762002 x758000 x758001).bind fun t785 => (laws_FnVals.j4 k (!t785) x741000 x741001 x741002 x742000 x742001 x742002 x762000 x762001 x762002)) else (laws_FnVals.j4 k false x741000 x741001 x741002 x742000 x742001 x742002 x762000 x762001 x762002)))))
def laws_FnVals.j4 : Nat → Bool → Int → Int → Bool → Int → Int → Bool → Int → Int → Bool → Option (Bool)
 | 0, _, _, _, _, _, _, _, _, _, _ => none
 | k + 1, x105, x741000, x741001, x741002, x742000, x742001, x742002, x762000, x762001, x762002 => if x105 = true then (some false) else ((impl_ValText.f k x762000 x762001 x762002).bind fun t786 => ((impl_ValRead.f t786).bind fun bt787 => (if bt787.2.2.2 = true then (if ((bt787.1 == x762000 && (bt787.2.1 == x762001)) && (bt787.2.2.1 == x762002)) = true then ((impl_ValLeq.f x741000 x741001 x741002 x762000 x762001 x762002).bind fun t792 => (if t792 = true then ((impl_ValLeq.f x742000 x742001 x742002 x762000 x762001 x762002).bind fun t793 => (if t793 = true then ((impl_ValLeq.f x741000 x741001 x741002 x742000 x742001 x742002).bind fun t794 => (some (t794 == ((x762000 == x742000 && (x762001 == x742001)) && (x762002 == x742002))))) else (some false))) else (some false))) else (some false)) else (some false))))
end
def laws_FnVals.f (k : Nat) (l0 : List Int) (l1 : List Int) : Option (Bool) := (laws_big.f l0).bind fun t732 => (if t732 = true then (laws_FnVals.j0 k l0 l1 true) else ((laws_big.f l1).bind fun t733 => (laws_FnVals.j0 k l0 l1 t733)))
theorem laws_FnVals.mono_l : ∀ k, (∀ y0 y1 y2, LeO (laws_FnVals.j0 k y0 y1 y2) (laws_FnVals.j0 (k + 1) y0 y1 y2)) ∧ (∀ y0 y1 y2 y3 y4 y5 y6 y7 y8 y9 y10 y11, LeO (laws_FnVals.j1 k y0 y1 y2 y3 y4 y5 y6 y7 y8 y9 y10 y11) (laws_FnVals.j1 (k + 1) y0 y1 y2 y3 y4 y5 y6 y7 y8 y9 y10 y11)) ∧ (∀ y0 y1 y2 y3 y4 y5 y6 y7 y8 y9 y10 y11, LeO (laws_FnVals.j2 k y0 y1 y2 y3 y4 y5 y6 y7 y8 y9 y10 y11) (laws_FnVals.j2 (k + 1) y0 y1 y2 y3 y4 y5 y6 y7 y8 y9 y10 y11)) ∧ (∀ y0 y1 y2 y3 y4 y5 y6 y7 y8 y9 y10 y11, LeO (laws_FnVals.j3 k y0 y1 y2 y3 y4 y5 y6 y7 y8 y9 y10 y11) (laws_FnVals.j3 (k + 1) y0 y1 y2 y3 y4 y5 y6 y7 y8 y9 y10 y11)) ∧ (∀ y0 y1 y2 y3 y4 y5 y6 y7 y8 y9, LeO (laws_FnVals.j4 k y0 y1 y2 y3 y4 y5 y6 y7 y8 y9) (laws_FnVals.j4 (k + 1) y0 y1 y2 y3 y4 y5 y6 y7 y8 y9))
 | 0 => ⟨fun _ _ _ r h => by simp [laws_FnVals.j0] at h, fun _ _ _ _ _ _ _ _ _ _ _ _ r h => by simp [laws_FnVals.j1] at h, fun _ _ _ _ _ _ _ _ _ _ _ _ r h => by simp [laws_FnVals.j2] at h, fun _ _ _ _ _ _ _ _ _ _ _ _ r h => by simp [laws_FnVals.j3] at h, fun _ _ _ _ _ _ _ _ _ _ r h => by simp [laws_FnVals.j4] at h⟩
 | k + 1 => by
  obtain ⟨ih0, ih1, ih2, ih3, ih4⟩ := laws_FnVals.mono_l k; refine ⟨?_, ?_, ?_, ?_, ?_⟩
  ·
   intro y0 y1 y2; unfold laws_FnVals.j0
   repeat' first
   | (with_reducible exact ih0 _ _ _)
   | (with_reducible exact ih1 _ _ _ _ _ _ _ _ _ _ _ _)
   | (with_reducible exact ih2 _ _ _ _ _ _ _ _ _ _ _ _)
   | (with_reducible exact ih3 _ _ _ _ _ _ _ _ _ _ _ _)
   | (with_reducible exact ih4 _ _ _ _ _ _ _ _ _ _)
   | (with_reducible exact impl_ValJoin.mono _ _ _ _ _ _ _)
   | (with_reducible exact impl_ValText.mono _ _ _ _)
   | (with_reducible exact impl_ValWiden.mono _ _ _ _ _ _ _ _)
   | (with_reducible exact spec_DrawRangeWiden.mono _ _)
   | (with_reducible exact spec_DrawValHas.mono _ _)
   | (with_reducible exact spec_DrawValJoin.mono _ _)
   | (with_reducible exact spec_ValJoin.mono _ _ _ _ _ _ _)
   | (with_reducible exact spec_ValWiden.mono _ _ _ _ _ _ _ _)
   | (with_reducible exact LeO.refl _)
   | (with_reducible exact LeO.none _)
   | (with_reducible refine LeO.ite ?_ ?_)
   | (with_reducible refine LeO.bind ?_ (fun _ => ?_))
   | exact ih0 _ _ _
   | exact ih1 _ _ _ _ _ _ _ _ _ _ _ _
   | exact ih2 _ _ _ _ _ _ _ _ _ _ _ _
   | exact ih3 _ _ _ _ _ _ _ _ _ _ _ _
   | exact ih4 _ _ _ _ _ _ _ _ _ _
   | exact impl_ValJoin.mono _ _ _ _ _ _ _
   | exact impl_ValText.mono _ _ _ _
   | exact impl_ValWiden.mono _ _ _ _ _ _ _ _
   | exact spec_DrawRangeWiden.mono _ _
   | exact spec_DrawValHas.mono _ _
   | exact spec_DrawValJoin.mono _ _
   | exact spec_ValJoin.mono _ _ _ _ _ _ _
   | exact spec_ValWiden.mono _ _ _ _ _ _ _ _
   | exact LeO.none _
   | refine LeO.ite ?_ ?_
   | refine LeO.bind ?_ (fun _ => ?_)
  ·
   intro y0 y1 y2 y3 y4 y5 y6 y7 y8 y9 y10 y11; unfold laws_FnVals.j1
   repeat' first
   | (with_reducible exact ih0 _ _ _)
   | (with_reducible exact ih1 _ _ _ _ _ _ _ _ _ _ _ _)
   | (with_reducible exact ih2 _ _ _ _ _ _ _ _ _ _ _ _)
   | (with_reducible exact ih3 _ _ _ _ _ _ _ _ _ _ _ _)
   | (with_reducible exact ih4 _ _ _ _ _ _ _ _ _ _)
   | (with_reducible exact impl_ValJoin.mono _ _ _ _ _ _ _)
   | (with_reducible exact impl_ValText.mono _ _ _ _)
   | (with_reducible exact impl_ValWiden.mono _ _ _ _ _ _ _ _)
   | (with_reducible exact spec_DrawRangeWiden.mono _ _)
   | (with_reducible exact spec_DrawValHas.mono _ _)
   | (with_reducible exact spec_DrawValJoin.mono _ _)
   | (with_reducible exact spec_ValJoin.mono _ _ _ _ _ _ _)
   | (with_reducible exact spec_ValWiden.mono _ _ _ _ _ _ _ _)
   | (with_reducible exact LeO.refl _)
   | (with_reducible exact LeO.none _)
   | (with_reducible refine LeO.ite ?_ ?_)
   | (with_reducible refine LeO.bind ?_ (fun _ => ?_))
   | exact ih0 _ _ _
   | exact ih1 _ _ _ _ _ _ _ _ _ _ _ _
   | exact ih2 _ _ _ _ _ _ _ _ _ _ _ _
   | exact ih3 _ _ _ _ _ _ _ _ _ _ _ _
   | exact ih4 _ _ _ _ _ _ _ _ _ _
   | exact impl_ValJoin.mono _ _ _ _ _ _ _
   | exact impl_ValText.mono _ _ _ _
   | exact impl_ValWiden.mono _ _ _ _ _ _ _ _
   | exact spec_DrawRangeWiden.mono _ _
   | exact spec_DrawValHas.mono _ _
   | exact spec_DrawValJoin.mono _ _
   | exact spec_ValJoin.mono _ _ _ _ _ _ _
   | exact spec_ValWiden.mono _ _ _ _ _ _ _ _
   | exact LeO.none _
   | refine LeO.ite ?_ ?_
   | refine LeO.bind ?_ (fun _ => ?_)
  ·
   intro y0 y1 y2 y3 y4 y5 y6 y7 y8 y9 y10 y11; unfold laws_FnVals.j2
   repeat' first
   | (with_reducible exact ih0 _ _ _)
   | (with_reducible exact ih1 _ _ _ _ _ _ _ _ _ _ _ _)
   | (with_reducible exact ih2 _ _ _ _ _ _ _ _ _ _ _ _)
   | (with_reducible exact ih3 _ _ _ _ _ _ _ _ _ _ _ _)
   | (with_reducible exact ih4 _ _ _ _ _ _ _ _ _ _)
   | (with_reducible exact impl_ValJoin.mono _ _ _ _ _ _ _)
   | (with_reducible exact impl_ValText.mono _ _ _ _)
   | (with_reducible exact impl_ValWiden.mono _ _ _ _ _ _ _ _)
   | (with_reducible exact spec_DrawRangeWiden.mono _ _)
   | (with_reducible exact spec_DrawValHas.mono _ _)
   | (with_reducible exact spec_DrawValJoin.mono _ _)
   | (with_reducible exact spec_ValJoin.mono _ _ _ _ _ _ _)
   | (with_reducible exact spec_ValWiden.mono _ _ _ _ _ _ _ _)
   | (with_reducible exact LeO.refl _)
   | (with_reducible exact LeO.none _)
   | (with_reducible refine LeO.ite ?_ ?_)
   | (with_reducible refine LeO.bind ?_ (fun _ => ?_))
   | exact ih0 _ _ _
   | exact ih1 _ _ _ _ _ _ _ _ _ _ _ _
   | exact ih2 _ _ _ _ _ _ _ _ _ _ _ _
   | exact ih3 _ _ _ _ _ _ _ _ _ _ _ _
   | exact ih4 _ _ _ _ _ _ _ _ _ _
   | exact impl_ValJoin.mono _ _ _ _ _ _ _
   | exact impl_ValText.mono _ _ _ _
   | exact impl_ValWiden.mono _ _ _ _ _ _ _ _
   | exact spec_DrawRangeWiden.mono _ _
   | exact spec_DrawValHas.mono _ _
   | exact spec_DrawValJoin.mono _ _
   | exact spec_ValJoin.mono _ _ _ _ _ _ _
   | exact spec_ValWiden.mono _ _ _ _ _ _ _ _
   | exact LeO.none _
   | refine LeO.ite ?_ ?_
   | refine LeO.bind ?_ (fun _ => ?_)
  ·
   intro y0 y1 y2 y3 y4 y5 y6 y7 y8 y9 y10 y11; unfold laws_FnVals.j3
   repeat' first
   | (with_reducible exact ih0 _ _ _)
   | (with_reducible exact ih1 _ _ _ _ _ _ _ _ _ _ _ _)
   | (with_reducible exact ih2 _ _ _ _ _ _ _ _ _ _ _ _)
   | (with_reducible exact ih3 _ _ _ _ _ _ _ _ _ _ _ _)
   | (with_reducible exact ih4 _ _ _ _ _ _ _ _ _ _)
   | (with_reducible exact impl_ValJoin.mono _ _ _ _ _ _ _)
   | (with_reducible exact impl_ValText.mono _ _ _ _)
   | (with_reducible exact impl_ValWiden.mono _ _ _ _ _ _ _ _)
   | (with_reducible exact spec_DrawRangeWiden.mono _ _)
   | (with_reducible exact spec_DrawValHas.mono _ _)
   | (with_reducible exact spec_DrawValJoin.mono _ _)
   | (with_reducible exact spec_ValJoin.mono _ _ _ _ _ _ _)
   | (with_reducible exact spec_ValWiden.mono _ _ _ _ _ _ _ _)
   | (with_reducible exact LeO.refl _)
   | (with_reducible exact LeO.none _)
   | (with_reducible refine LeO.ite ?_ ?_)
   | (with_reducible refine LeO.bind ?_ (fun _ => ?_))
   | exact ih0 _ _ _
   | exact ih1 _ _ _ _ _ _ _ _ _ _ _ _
   | exact ih2 _ _ _ _ _ _ _ _ _ _ _ _
   | exact ih3 _ _ _ _ _ _ _ _ _ _ _ _
   | exact ih4 _ _ _ _ _ _ _ _ _ _
   | exact impl_ValJoin.mono _ _ _ _ _ _ _
   | exact impl_ValText.mono _ _ _ _
   | exact impl_ValWiden.mono _ _ _ _ _ _ _ _
   | exact spec_DrawRangeWiden.mono _ _
   | exact spec_DrawValHas.mono _ _
   | exact spec_DrawValJoin.mono _ _
   | exact spec_ValJoin.mono _ _ _ _ _ _ _
   | exact spec_ValWiden.mono _ _ _ _ _ _ _ _
   | exact LeO.none _
   | refine LeO.ite ?_ ?_
   | refine LeO.bind ?_ (fun _ => ?_)
  ·
   intro y0 y1 y2 y3 y4 y5 y6 y7 y8 y9; unfold laws_FnVals.j4
   repeat' first
   | (with_reducible exact ih0 _ _ _)
   | (with_reducible exact ih1 _ _ _ _ _ _ _ _ _ _ _ _)
   | (with_reducible exact ih2 _ _ _ _ _ _ _ _ _ _ _ _)
   | (with_reducible exact ih3 _ _ _ _ _ _ _ _ _ _ _ _)
   | (with_reducible exact ih4 _ _ _ _ _ _ _ _ _ _)
   | (with_reducible exact impl_ValJoin.mono _ _ _ _ _ _ _)
   | (with_reducible exact impl_ValText.mono _ _ _ _)
   | (with_reducible exact impl_ValWiden.mono _ _ _ _ _ _ _ _)
   | (with_reducible exact spec_DrawRangeWiden.mono _ _)
   | (with_reducible exact spec_DrawValHas.mono _ _)
   | (with_reducible exact spec_DrawValJoin.mono _ _)
   | (with_reducible exact spec_ValJoin.mono _ _ _ _ _ _ _)
   | (with_reducible exact spec_ValWiden.mono _ _ _ _ _ _ _ _)
   | (with_reducible exact LeO.refl _)
   | (with_reducible exact LeO.none _)
   | (with_reducible refine LeO.ite ?_ ?_)
   | (with_reducible refine LeO.bind ?_ (fun _ => ?_))
   | exact ih0 _ _ _
   | exact ih1 _ _ _ _ _ _ _ _ _ _ _ _
   | exact ih2 _ _ _ _ _ _ _ _ _ _ _ _
   | exact ih3 _ _ _ _ _ _ _ _ _ _ _ _
   | exact ih4 _ _ _ _ _ _ _ _ _ _
   | exact impl_ValJoin.mono _ _ _ _ _ _ _
   | exact impl_ValText.mono _ _ _ _
   | exact impl_ValWiden.mono _ _ _ _ _ _ _ _
   | exact spec_DrawRangeWiden.mono _ _
   | exact spec_DrawValHas.mono _ _
   | exact spec_DrawValJoin.mono _ _
   | exact spec_ValJoin.mono _ _ _ _ _ _ _
   | exact spec_ValWiden.mono _ _ _ _ _ _ _ _
   | exact LeO.none _
   | refine LeO.ite ?_ ?_
   | refine LeO.bind ?_ (fun _ => ?_)
theorem laws_FnVals.mono : ∀ a0 a1 k, LeO (laws_FnVals.f k a0 a1) (laws_FnVals.f (k + 1) a0 a1) := by
 intro a0 a1 k; obtain ⟨ih0, ih1, ih2, ih3, ih4⟩ := laws_FnVals.mono_l k; unfold laws_FnVals.f
 repeat' first
   | (with_reducible exact ih0 _ _ _)
   | (with_reducible exact ih1 _ _ _ _ _ _ _ _ _ _ _ _)
   | (with_reducible exact ih2 _ _ _ _ _ _ _ _ _ _ _ _)
   | (with_reducible exact ih3 _ _ _ _ _ _ _ _ _ _ _ _)
   | (with_reducible exact ih4 _ _ _ _ _ _ _ _ _ _)
   | (with_reducible exact impl_ValJoin.mono _ _ _ _ _ _ _)
   | (with_reducible exact impl_ValText.mono _ _ _ _)
   | (with_reducible exact impl_ValWiden.mono _ _ _ _ _ _ _ _)
   | (with_reducible exact spec_DrawRangeWiden.mono _ _)
   | (with_reducible exact spec_DrawValHas.mono _ _)
   | (with_reducible exact spec_DrawValJoin.mono _ _)
   | (with_reducible exact spec_ValJoin.mono _ _ _ _ _ _ _)
   | (with_reducible exact spec_ValWiden.mono _ _ _ _ _ _ _ _)
   | (with_reducible exact LeO.refl _)
   | (with_reducible exact LeO.none _)
   | (with_reducible refine LeO.ite ?_ ?_)
   | (with_reducible refine LeO.bind ?_ (fun _ => ?_))
   | exact ih0 _ _ _
   | exact ih1 _ _ _ _ _ _ _ _ _ _ _ _
   | exact ih2 _ _ _ _ _ _ _ _ _ _ _ _
   | exact ih3 _ _ _ _ _ _ _ _ _ _ _ _
   | exact ih4 _ _ _ _ _ _ _ _ _ _
   | exact impl_ValJoin.mono _ _ _ _ _ _ _
   | exact impl_ValText.mono _ _ _ _
   | exact impl_ValWiden.mono _ _ _ _ _ _ _ _
   | exact spec_DrawRangeWiden.mono _ _
   | exact spec_DrawValHas.mono _ _
   | exact spec_DrawValJoin.mono _ _
   | exact spec_ValJoin.mono _ _ _ _ _ _ _
   | exact spec_ValWiden.mono _ _ _ _ _ _ _ _
   | exact LeO.none _
   | refine LeO.ite ?_ ?_
   | refine LeO.bind ?_ (fun _ => ?_)
def laws_FnVals.T8 : Bool × List (List Nat × List Nat) := (true, [([], []), ([], []), ([], []), ([1, 2], [1, 2]), ([0, 3], [0, 3]), ([4, 3], [4]), ([5], [5]), ([5], [5]), ([5], [5]), ([5], [5]), ([7, 8, 9, 5, 5], [5, 7, 8, 9]), ([6, 10, 5], [5, 6, 10]), ([5, 11], [5, 11]), ([12, 10], [12]), ([13], [13]), ([13], [13]), ([14, 15, 13, 13], [13, 14, 15]), ([13], [13]), ([13], [13]), ([17, 18, 16, 13], [13, 17, 18]), ([16, 19, 13], [13, 16, 19]), ([13, 20], [13, 20])])
def laws_FnVals.B8 : List Nat := [0, 0, 0, 6, 15, 31, 63, 63, 63, 63, 959, 2047, 4095, 8191, 16383, 16383, 65535, 16383, 16383, 524287, 1048575, 2097151]
theorem laws_FnVals.tab8 : rtab .any (opsOf Tryd.f5 8) = laws_FnVals.T8 := by kernel_rfl
theorem laws_FnVals.bits8 : waitsOk laws_FnVals.T8.2 laws_FnVals.B8 = true := by kernel_rfl
def laws_FnVals.T12 : Bool × List (List Nat × List Nat) := (true, [([], []), ([], []), ([0, 1], [0, 1]), ([2, 2], [2]), ([3], [3]), ([3], [3]), ([4, 5, 3, 3], [3, 4, 5]), ([3, 6], [3, 6]), ([], []), ([], []), ([8, 9, 6], [8, 9]), ([10, 10], [10]), ([11], [11]), ([11], [11]), ([12, 13, 11, 11], [11, 12, 13]), ([11, 14], [11, 14]), ([7, 15], [7, 15])])
def laws_FnVals.B12 : List Nat := [0, 0, 3, 7, 15, 15, 63, 127, 0, 0, 895, 1919, 3967, 3967, 16255, 32639, 65535]
theorem laws_FnVals.tab12 : rtab .any (opsOf Tryd.f5 12) = laws_FnVals.T12 := by kernel_rfl
theorem laws_FnVals.bits12 : waitsOk laws_FnVals.T12.2 laws_FnVals.B12 = true := by kernel_rfl
def laws_FnVals.T17 : Bool × List (List Nat × List Nat) := (true, [([], []), ([0], [0]), ([1], [1]), ([1], [1]), ([2, 3, 1], [1, 2, 3]), ([1, 4], [1, 4]), ([5, 1], [5]), ([6], [6]), ([6], [6]), ([7, 8, 6, 6], [6, 7, 8]), ([6, 9], [6, 9]), ([10, 9], [10]), ([11], [11]), ([11], [11]), ([12, 13, 11, 11], [11, 12, 13]), ([11, 14], [11, 14]), ([15, 14], [15]), ([16], [16]), ([16], [16]), ([17, 18, 16, 16], [16, 17, 18]), ([16], [16]), ([16], [16]), ([20, 21, 16], [16, 20, 21]), ([19, 22, 16], [16, 19, 22]), ([16, 23], [16, 23]), ([24, 19, 0, 1, 2, 3, 4, 5, 6, 7, 8, 9, 10, 11, 12, 13, 14, 15, 16, 17, 18, 19, 20, 21, 22, 23, 24], [24])])
def laws_FnVals.B17 : List Nat := [0, 1, 3, 3, 15, 31, 63, 127, 127, 511, 1023, 2047, 4095, 4095, 16383, 32767, 65535, 131071, 131071, 524287, 131071, 131071, 3276799, 8388607, 16777215, 33554431]
theorem laws_FnVals.tab17 : rtab .any (opsOf Tryd.f5 17) = laws_FnVals.T17 := by kernel_rfl
theorem laws_FnVals.bits17 : waitsOk laws_FnVals.T17.2 laws_FnVals.B17 = true := by kernel_rfl
set_option maxHeartbeats 8000000 in
set_option maxRecDepth 100000 in
theorem laws_FnVals.calls (k : Nat) (A0 : Option Addr) (c0 : Nat) (l0 : List Int) (A1 : Option Addr) (c1 : Nat) (l1 : List Int) (r : Bool) (w : World) (hG0 : GL0 w) (hG1 : GL1 w) (hG2 : GL2 w) (hG3 : GL3 w) (hG4 : GL4 w) (hG5 : GL5 w) (hr0 : Kd.C (Kd.int .u8) w A0 l0.length l0) (hc0 : l0.length ≤ c0) (hr1 : Kd.C (Kd.int .u8) w A1 l1.length l1) (hc1 : l1.length ≤ c1) (h : laws_FnVals.f k l0 l1 = some r) (hr_ : r = true) :
  Calls Tryd.prog 5 #[.slice A0 l0.length c0, .slice A1 l1.length c1] w fun e w' => e = .returned (.bool r) ∧ Below w.heap.size w w' := by
 have hu44 := Tryd.underlying44; have hu25 := Tryd.underlying25; have hu48 := Tryd.underlying48; have HR0 := Aside0.mk hr0; have HC0 := Aside0.mk hc0; clear hr0 hc0; have HR1 := Aside0.mk hr1; have HC1 := Aside0.mk hc1; clear hr1 hc1; have HB := Aside0.mk (Below.refl w.heap.size w); have HG0 := Aside0.mk hG0; clear hG0; have HG1 := Aside0.mk hG1; clear hG1; have HG2 := Aside0.mk hG2; clear hG2; have HG3 := Aside0.mk hG3; clear hG3; have HG4 := Aside0.mk hG4; clear hG4; have HG5 := Aside0.mk hG5; clear hG5; have H : ((laws_big.f l0).bind fun t732 => (if t732 = true then (laws_FnVals.j0 k l0 l1 true) else ((laws_big.f l1).bind fun t733 => (laws_FnVals.j0 k l0 l1 t733)))) = some r := h; clear h; have HC3 := Aside0.mk H; clear H
 go_enter Tryd.func5, Tryd.ntmps5
 go_upto_region 1 with (fail)
 go_cut [21] (fun v21 wc => ∃ (kq : Nat) (x21_2 : Bool), v21 = .bool x21_2 ∧ Aside0 (laws_FnVals.j0 kq l0 l1 x21_2 = some r) ∧ Aside0 (kq ≤ k) ∧ Aside0 (Below w.heap.size w wc))
 case first =>
  have H := HC3.out; clear HC3; replace H := Option.bind_eq_some_iff.mp H; obtain ⟨t732, A40, H⟩ := H; (try dsimp only at H); have A4 := Aside0.mk A40; clear A40
  by_cases c5 : t732 = true
  ·
   subst c5; have H1 := ifp_ H
   clear H; have H := H1; clear H1; have H' := Aside0.mk H; clear H
   go_wp2_with (first | ((with_reducible refine gate_callee (f := 6) rfl ?_); refine gl_ 17 Tryd.func6 #[.slice A0 l0.length c0] (h := ?_); (with_reducible refine (laws_big.calls _ _ l0 true _ ?side1 ?side2 A4.out).mono ?_); (case side1 => exact sq_c (Kd.C_below HR0.out HB.out)); (case side2 => exact HC0.out); rintro e w' ⟨rfl, ⟨nd, rfl⟩⟩; refine ⟨_, rfl, ?_⟩))
   go_meet
   case rel => exact ⟨_, (true), (by first | rfl | (simp; done) | (simp [*]; done)), H', ⟨by first | omega | exact Nat.le_refl _⟩, ⟨by repeat (first | (with_reducible first | exact HB.out | apply below_alloc | apply pw_below_drewN | apply below_drew1) | exact HB.out)⟩⟩
  ·
   replace c5 := Bool.eq_false_iff.mpr c5; subst c5; have H1 := ifn_ H
   clear H; have H := H1; clear H1; replace H := Option.bind_eq_some_iff.mp H; obtain ⟨t733, A60, H⟩ := H; replace H : (laws_FnVals.j0 k l0 l1 t733) = some r := H; have A6 := Aside0.mk A60; clear A60; have H' := Aside0.mk H; clear H
   go_wp2_with (first | ((with_reducible refine gate_callee (f := 6) rfl ?_); refine gl_ 17 Tryd.func6 #[.slice A0 l0.length c0] (h := ?_); (with_reducible refine (laws_big.calls _ _ l0 false _ ?side1 ?side2 A4.out).mono ?_); (case side1 => exact sq_c (Kd.C_below HR0.out HB.out)); (case side2 => exact HC0.out); rintro e w' ⟨rfl, ⟨nd, rfl⟩⟩; refine ⟨_, rfl, ?_⟩) | (go_at_call 6; (with_reducible refine (laws_big.calls _ _ l1 t733 _ ?side1 ?side2 A6.out).mono ?_); (case side1 => exact sq_c (Kd.C_below HR1.out (sq_below HB.out))); (case side2 => exact HC1.out); rintro e w' ⟨rfl, ⟨nd, rfl⟩⟩))
   go_meet
   case rel => exact ⟨_, (t733), (by first | rfl | (simp; done) | (simp [*]; done)), H', ⟨by first | omega | exact Nat.le_refl _⟩, ⟨by repeat (first | (with_reducible first | exact HB.out | apply below_alloc | apply pw_below_drewN | apply below_drew1) | exact HB.out)⟩⟩
 case rest =>
  clear HC3
  try clear c1
  try clear p2
  try clear c5
  try clear c6
  obtain ⟨kq, x21_2, rfl, HA, HJ2, HB⟩ := hcut; cases kq with
  | zero => exact absurd HA.out (by simp [laws_FnVals.j0])
  | succ kj2 =>
   have H := HA.out; clear HA; simp only [laws_FnVals.j0] at H
   by_cases c7 : x21_2 = true
   ·
    subst c7; have H1 := ifp_ H
    clear H; have H := H1; clear H1; obtain rfl := Option.some.inj H
    go_wp2
    go_ret
    exact ⟨by first | rfl | (simp [errW_none, errW_some] <;> rfl) | (simp [*, errW_none, errW_some] <;> rfl), by repeat (first | (with_reducible first | exact HB.out | apply below_alloc | apply pw_below_drewN | apply below_drew1) | exact HB.out)⟩
   ·
    replace c7 := Bool.eq_false_iff.mpr c7; subst c7; have H1 := ifn_ H
    clear H; have H := H1; clear H1; replace H := Option.bind_eq_some_iff.mp H; obtain ⟨⟨t734, t735, t736, t737, t738, t739⟩, A80, H⟩ := H; (try dsimp only at H); have A8 := Aside0.mk A80; clear A80; replace H := Option.bind_eq_some_iff.mp H; obtain ⟨⟨t742, t743, t744, t745, t746⟩, A90, H⟩ := H; (try dsimp only at H); have A9 := Aside0.mk A90; clear A90; replace H := Option.bind_eq_some_iff.mp H; obtain ⟨⟨t751, t752, t753, t754, t755⟩, A100, H⟩ := H; (try dsimp only at H); have A10 := Aside0.mk A100; clear A100; replace H := Option.bind_eq_some_iff.mp H; obtain ⟨⟨t758, t759, t760⟩, A110, H⟩ := H; (try dsimp only at H); have A11 := Aside0.mk A110; clear A110; replace H := Option.bind_eq_some_iff.mp H; obtain ⟨⟨t762, t763, t764⟩, A120, H⟩ := H; (try dsimp only at H); have A12 := Aside0.mk A120; clear A120; have HC13 := Aside0.mk H; clear H
    go_upto_region 8 with (first | ((with_reducible refine gate_callee (f := 33) rfl ?_); refine gl_ 24 Tryd.func33 #[.slice A0 l0.length c0] (h := ?_); (with_reducible refine (spec_DrawValJoin.calls kj2 _ _ l0 t734 t735 t736 t737 t738 t739 _ ?side1 ?side2 A8.out).mono ?_); (case side1 => exact sq_c (Kd.C_below HR0.out HB.out)); (case side2 => exact HC0.out); rintro e w14 ⟨rfl, hb⟩; refine ⟨_, rfl, ?_⟩; replace HB := hb_ HB hb; (try clear hb)) | ((with_reducible refine gate_dst (N := 5) rfl ?_); refine box_y 5 #[.int .i64 0, .int .i64 0, .bool false] 44 (h := ?_); intro gb740 hg w15 hbox hb; have n0_ := Aside0.mk (below_step (sq_below HB.out) hb); have n1_ := Aside0.mk (hbox); have n2_ := ge_ hg (below_size (sq_below HB.out)); have n3_ := ge_ hg (below_size (sq_below HB.out)); clear HB; have HB := n0_; have BK740 := n1_; have GW740 := n2_; have GE740 := n3_; clear n0_ n1_ n2_ n3_; clear hb hbox hg) | ((with_reducible refine gate_dst (N := 6) rfl ?_); refine box_y 6 #[.int .i64 0, .int .i64 0, .bool false] 44 (h := ?_); intro gb741 hg w16 hbox hb; have n0_ := Aside0.mk (blk_below (sq_blk BK740.out) hb); have n1_ := Aside0.mk (below_step (sq_below1 HB.out GE740.out) hb); have n2_ := Aside0.mk (hbox); have n3_ := ge_ hg (below_size (sq_below1 HB.out GE740.out)); have n4_ := ge_ hg (below_size (sq_below1 HB.out GE740.out)); have n5_ := nb_ hg BK740; have n6_ := Aside0.mk (Ne.symm n5_.out); clear BK740; clear HB; have BK740 := n0_; have HB := n1_; have BK741 := n2_; have GW741 := n3_; have GE741 := n4_; have NB740_741 := n5_; have NB741_740 := n6_; clear n0_ n1_ n2_ n3_ n4_ n5_ n6_; clear hb hbox hg; have hnb17 := NB740_741.out; have hnc17 := NB741_740.out; have hcz18_0 := cl_ (v := .int .i64 0) BK740 0; have hcz18_1 := cl_ (v := .int .i64 0) BK740 1; have hcz18_2 := cl_ (v := .bool false) BK740 2; have hfz18_0 := blk_frozen BK740.out 0; have hfz18_1 := blk_frozen BK740.out 1; have hfz18_2 := blk_frozen BK740.out 2; have hcz19_0 := cl_ (v := .int .i64 0) BK741 0; have hcz19_1 := cl_ (v := .int .i64 0) BK741 1; have hcz19_2 := cl_ (v := .bool false) BK741 2; have hfz19_0 := blk_frozen BK741.out 0; have hfz19_1 := blk_frozen BK741.out 1; have hfz19_2 := blk_frozen BK741.out 2) | ((with_reducible refine gate_callee (f := 21) rfl ?_); refine gl_ 29 Tryd.func21 #[.slice A1 l1.length c1] (h := ?_); (with_reducible refine (spec_DrawRangeWiden.calls kj2 _ _ l1 t742 t743 t744 t745 t746 _ ?side1 ?side2 A9.out).mono ?_); (case side1 => exact Kd.C_below HR1.out (sq_below2 HB.out GE740.out GE741.out)); (case side2 => exact HC1.out); rintro e w20 ⟨v747, rfl, ho0, hb⟩; refine ⟨_, rfl, ?_⟩; have n0_ := Aside0.mk (Kd.R_lower ho0 (below_size (sq_below2 HB.out GE740.out GE741.out))); have n1_ := Aside0.mk (blk_below (g := gb740) (o := .cells #[.int .i64 t734, .int .i64 t735, .bool t736] 44 (0, 0)) (bp1_ BK740 NB740_741) hb); have n2_ := Aside0.mk (blk_below (g := gb741) (o := .cells #[.int .i64 t737, .int .i64 t738, .bool t739] 44 (0, 0)) (bp1_ BK741 NB741_740) hb); have n3_ := Aside0.mk (below_step (sq_below2 HB.out GE740.out GE741.out) hb); clear BK740; clear BK741; clear HB; have HO748 := n0_; have BK740 := n1_; have BK741 := n2_; have HB := n3_; clear n0_ n1_ n2_ n3_; (try clear hb); (try clear ho0)) | ((with_reducible refine gate_dst (N := 7) rfl ?_); refine box_y 7 #[.int .i64 0, .int .i64 0] 25 (h := ?_); intro gb749 hg w21 hbox hb; have n0_ := Aside0.mk (Kd.R_below (sq_row HO748.out) hb); have n1_ := Aside0.mk (blk_below (sq_blk BK740.out) hb); have n2_ := Aside0.mk (blk_below (sq_blk BK741.out) hb); have n3_ := Aside0.mk (below_step (sq_below2 HB.out GE740.out GE741.out) hb); have n4_ := Aside0.mk (hbox); have n5_ := ge_ hg (below_size (sq_below2 HB.out GE740.out GE741.out)); have n6_ := ge_ hg (below_size (sq_below2 HB.out GE740.out GE741.out)); have n7_ := nb_ hg BK740; have n8_ := Aside0.mk (Ne.symm n7_.out); have n9_ := nb_ hg BK741; have n10_ := Aside0.mk (Ne.symm n9_.out); clear HO748; clear BK740; clear BK741; clear HB; have HO748 := n0_; have BK740 := n1_; have BK741 := n2_; have HB := n3_; have BK749 := n4_; have GW749 := n5_; have GE749 := n6_; have NB740_749 := n7_; have NB749_740 := n8_; have NB741_749 := n9_; have NB749_741 := n10_; clear n0_ n1_ n2_ n3_ n4_ n5_ n6_ n7_ n8_ n9_ n10_; clear hb hbox hg) | ((with_reducible refine gate_dst (N := 8) rfl ?_); refine box_y 8 #[.int .i64 0, .int .i64 0] 25 (h := ?_); intro gb750 hg w22 hbox hb; have n0_ := Aside0.mk (Kd.R_below (sq_row HO748.out) hb); have n1_ := Aside0.mk (blk_below (sq_blk BK740.out) hb); have n2_ := Aside0.mk (blk_below (sq_blk BK741.out) hb); have n3_ := Aside0.mk (blk_below (sq_blk BK749.out) hb); have n4_ := Aside0.mk (below_step (sq_below3 HB.out GE740.out GE741.out GE749.out) hb); have n5_ := Aside0.mk (hbox); have n6_ := ge_ hg (below_size (sq_below3 HB.out GE740.out GE741.out GE749.out)); have n7_ := ge_ hg (below_size (sq_below3 HB.out GE740.out GE741.out GE749.out)); have n8_ := nb_ hg BK740; have n9_ := Aside0.mk (Ne.symm n8_.out); have n10_ := nb_ hg BK741; have n11_ := Aside0.mk (Ne.symm n10_.out); have n12_ := nb_ hg BK749; have n13_ := Aside0.mk (Ne.symm n12_.out); clear HO748; clear BK740; clear BK741; clear BK749; clear HB; have HO748 := n0_; have BK740 := n1_; have BK741 := n2_; have BK749 := n3_; have HB := n4_; have BK750 := n5_; have GW750 := n6_; have GE750 := n7_; have NB740_750 := n8_; have NB750_740 := n9_; have NB741_750 := n10_; have NB750_741 := n11_; have NB749_750 := n12_; have NB750_749 := n13_; clear n0_ n1_ n2_ n3_ n4_ n5_ n6_ n7_ n8_ n9_ n10_ n11_ n12_ n13_; clear hb hbox hg; have hnb23 := NB749_740.out; have hnc23 := NB740_749.out; have hnb24 := NB749_741.out; have hnc24 := NB741_749.out; have hnb25 := NB749_750.out; have hnc25 := NB750_749.out; have hcz26_0 := cl_ (v := .int .i64 0) BK749 0; have hcz26_1 := cl_ (v := .int .i64 0) BK749 1; have hfz26_0 := blk_frozen BK749.out 0; have hfz26_1 := blk_frozen BK749.out 1; have hnb27 := NB750_740.out; have hnc27 := NB740_750.out; have hnb28 := NB750_741.out; have hnc28 := NB741_750.out; have hcz29_0 := cl_ (v := .int .i64 0) BK750 0; have hcz29_1 := cl_ (v := .int .i64 0) BK750 1; have hfz29_0 := blk_frozen BK750.out 0; have hfz29_1 := blk_frozen BK750.out 1) | ((with_reducible refine gate_callee (f := 34) rfl ?_); refine gl_ 35 Tryd.func34 #[.slice A1 l1.length c1] (h := ?_); (with_reducible refine (spec_DrawValHas.calls kj2 _ _ l1 t751 t752 t753 t754 t755 _ ?side1 ?side2 A10.out).mono ?_); (case side1 => exact Kd.C_below HR1.out (sq_below4 HB.out GE740.out GE741.out GE749.out GE750.out)); (case side2 => exact HC1.out); rintro e w30 ⟨rfl, hb⟩; refine ⟨_, rfl, ?_⟩; replace HO748 := Aside0.mk (Kd.R_below (by (with_reducible repeat (first | apply Kd.R_alloc | apply Kd.R_drewN | apply Kd.R_drew)); exact (Kd.R_mono (Kd.R_mono (Kd.R_far (p := ⟨gb750, 1, none⟩) (Kd.R_far (p := ⟨gb750, 0, none⟩) (Kd.R_far (p := ⟨gb749, 1, none⟩) (Kd.R_far (p := ⟨gb749, 0, none⟩) (Kd.R_types (Kd.R_types HO748.out BK749.out (by decide)) BK750.out (by decide)) (fun _ hk => hk.1.2) (.int .i64 t742)) (fun _ hk => hk.1.2) (.int .i64 t743)) (fun _ hk => hk.2) (.int .i64 t744)) (fun _ hk => hk.2) (.int .i64 t745)) (fun _ h_ => h_.1)) (fun _ h_ => h_.1))) hb); replace BK740 := Aside0.mk (blk_below (g := gb740) (o := .cells #[.int .i64 t734, .int .i64 t735, .bool t736] 44 (0, 0)) (by (with_reducible repeat (first | refine blk_drewN ?_ _ | refine blk_drew ?_ | refine blk_alloc ?_ _)); refine blk_far ?_ NB740_750.out _; (with_reducible repeat (first | refine blk_drewN ?_ _ | refine blk_drew ?_ | refine blk_alloc ?_ _)); refine blk_far ?_ NB740_750.out _; (with_reducible repeat (first | refine blk_drewN ?_ _ | refine blk_drew ?_ | refine blk_alloc ?_ _)); refine blk_far ?_ NB740_749.out _; (with_reducible repeat (first | refine blk_drewN ?_ _ | refine blk_drew ?_ | refine blk_alloc ?_ _)); refine blk_far ?_ NB740_749.out _; (with_reducible repeat (first | refine blk_drewN ?_ _ | refine blk_drew ?_ | refine blk_alloc ?_ _)); exact BK740.out) hb); replace BK741 := Aside0.mk (blk_below (g := gb741) (o := .cells #[.int .i64 t737, .int .i64 t738, .bool t739] 44 (0, 0)) (by (with_reducible repeat (first | refine blk_drewN ?_ _ | refine blk_drew ?_ | refine blk_alloc ?_ _)); refine blk_far ?_ NB741_750.out _; (with_reducible repeat (first | refine blk_drewN ?_ _ | refine blk_drew ?_ | refine blk_alloc ?_ _)); refine blk_far ?_ NB741_750.out _; (with_reducible repeat (first | refine blk_drewN ?_ _ | refine blk_drew ?_ | refine blk_alloc ?_ _)); refine blk_far ?_ NB741_749.out _; (with_reducible repeat (first | refine blk_drewN ?_ _ | refine blk_drew ?_ | refine blk_alloc ?_ _)); refine blk_far ?_ NB741_749.out _; (with_reducible repeat (first | refine blk_drewN ?_ _ | refine blk_drew ?_ | refine blk_alloc ?_ _)); exact BK741.out) hb); replace BK749 := Aside0.mk (blk_below (g := gb749) (o := .cells #[.int .i64 t742, .int .i64 t743] 25 (0, 0)) (bp1_ BK749 NB749_750) hb); replace BK750 := Aside0.mk (blk_below (g := gb750) (o := .cells #[.int .i64 t744, .int .i64 t745] 25 (0, 0)) (bp1_ BK750 NB750_749) hb); replace HB := hb4_ HB hb GE740 GE741 GE749 GE750; (try clear hb)) | ((with_reducible refine gate_dst (N := 10) rfl ?_); refine box_y 10 #[.int .i64 0, .int .i64 0, .bool false] 44 (h := ?_); intro gb756 hg w31 hbox hb; have n0_ := Aside0.mk (Kd.R_below (sq_row HO748.out) hb); have n1_ := Aside0.mk (blk_below (sq_blk BK740.out) hb); have n2_ := Aside0.mk (blk_below (sq_blk BK741.out) hb); have n3_ := Aside0.mk (blk_below (sq_blk BK749.out) hb); have n4_ := Aside0.mk (blk_below (sq_blk BK750.out) hb); have n5_ := Aside0.mk (below_step (sq_below4 HB.out GE740.out GE741.out GE749.out GE750.out) hb); have n6_ := Aside0.mk (hbox); have n7_ := ge_ hg (below_size (sq_below4 HB.out GE740.out GE741.out GE749.out GE750.out)); have n8_ := ge_ hg (below_size (sq_below4 HB.out GE740.out GE741.out GE749.out GE750.out)); have n9_ := nb_ hg BK740; have n10_ := Aside0.mk (Ne.symm n9_.out); have n11_ := nb_ hg BK741; have n12_ := Aside0.mk (Ne.symm n11_.out); have n13_ := nb_ hg BK749; have n14_ := Aside0.mk (Ne.symm n13_.out); have n15_ := nb_ hg BK750; have n16_ := Aside0.mk (Ne.symm n15_.out); clear HO748; clear BK740; clear BK741; clear BK749; clear BK750; clear HB; have HO748 := n0_; have BK740 := n1_; have BK741 := n2_; have BK749 := n3_; have BK750 := n4_; have HB := n5_; have BK756 := n6_; have GW756 := n7_; have GE756 := n8_; have NB740_756 := n9_; have NB756_740 := n10_; have NB741_756 := n11_; have NB756_741 := n12_; have NB749_756 := n13_; have NB756_749 := n14_; have NB750_756 := n15_; have NB756_750 := n16_; clear n0_ n1_ n2_ n3_ n4_ n5_ n6_ n7_ n8_ n9_ n10_ n11_ n12_ n13_ n14_ n15_ n16_; clear hb hbox hg) | ((with_reducible refine gate_dst (N := 11) rfl ?_); refine box_y 11 #[.bool false, .int .i64 0] 48 (h := ?_); intro gb757 hg w32 hbox hb; have n0_ := Aside0.mk (Kd.R_below (sq_row HO748.out) hb); have n1_ := Aside0.mk (blk_below (sq_blk BK740.out) hb); have n2_ := Aside0.mk (blk_below (sq_blk BK741.out) hb); have n3_ := Aside0.mk (blk_below (sq_blk BK749.out) hb); have n4_ := Aside0.mk (blk_below (sq_blk BK750.out) hb); have n5_ := Aside0.mk (blk_below (sq_blk BK756.out) hb); have n6_ := Aside0.mk (below_step (sq_below5 HB.out GE740.out GE741.out GE749.out GE750.out GE756.out) hb); have n7_ := Aside0.mk (hbox); have n8_ := ge_ hg (below_size (sq_below5 HB.out GE740.out GE741.out GE749.out GE750.out GE756.out)); have n9_ := ge_ hg (below_size (sq_below5 HB.out GE740.out GE741.out GE749.out GE750.out GE756.out)); have n10_ := nb_ hg BK740; have n11_ := Aside0.mk (Ne.symm n10_.out); have n12_ := nb_ hg BK741; have n13_ := Aside0.mk (Ne.symm n12_.out); have n14_ := nb_ hg BK749; have n15_ := Aside0.mk (Ne.symm n14_.out); have n16_ := nb_ hg BK750; have n17_ := Aside0.mk (Ne.symm n16_.out); have n18_ := nb_ hg BK756; have n19_ := Aside0.mk (Ne.symm n18_.out); clear HO748; clear BK740; clear BK741; clear BK749; clear BK750; clear BK756; clear HB; have HO748 := n0_; have BK740 := n1_; have BK741 := n2_; have BK749 := n3_; have BK750 := n4_; have BK756 := n5_; have HB := n6_; have BK757 := n7_; have GW757 := n8_; have GE757 := n9_; have NB740_757 := n10_; have NB757_740 := n11_; have NB741_757 := n12_; have NB757_741 := n13_; have NB749_757 := n14_; have NB757_749 := n15_; have NB750_757 := n16_; have NB757_750 := n17_; have NB756_757 := n18_; have NB757_756 := n19_; clear n0_ n1_ n2_ n3_ n4_ n5_ n6_ n7_ n8_ n9_ n10_ n11_ n12_ n13_ n14_ n15_ n16_ n17_ n18_ n19_; clear hb hbox hg; have hnb33 := NB756_740.out; have hnc33 := NB740_756.out; have hnb34 := NB756_741.out; have hnc34 := NB741_756.out; have hnb35 := NB756_749.out; have hnc35 := NB749_756.out; have hnb36 := NB756_750.out; have hnc36 := NB750_756.out; have hnb37 := NB756_757.out; have hnc37 := NB757_756.out; have hcz38_0 := cl_ (v := .int .i64 0) BK756 0; have hcz38_1 := cl_ (v := .int .i64 0) BK756 1; have hcz38_2 := cl_ (v := .bool false) BK756 2; have hfz38_0 := blk_frozen BK756.out 0; have hfz38_1 := blk_frozen BK756.out 1; have hfz38_2 := blk_frozen BK756.out 2; have hnb39 := NB757_740.out; have hnc39 := NB740_757.out; have hnb40 := NB757_741.out; have hnc40 := NB741_757.out; have hnb41 := NB757_749.out; have hnc41 := NB749_757.out; have hnb42 := NB757_750.out; have hnc42 := NB750_757.out; have hcz43_0 := cl_ (v := .bool false) BK757 0; have hcz43_1 := cl_ (v := .int .i64 0) BK757 1; have hfz43_0 := blk_frozen BK757.out 0; have hfz43_1 := blk_frozen BK757.out 1; have hcz44_0 := cl_ (v := .int .i64 t734) BK740 0; have hcz44_1 := cl_ (v := .int .i64 t735) BK740 1; have hcz44_2 := cl_ (v := .bool t736) BK740 2; have hfz44_0 := blk_frozen BK740.out 0; have hfz44_1 := blk_frozen BK740.out 1; have hfz44_2 := blk_frozen BK740.out 2; have hcz45_0 := cl_ (v := .int .i64 t737) BK741 0; have hcz45_1 := cl_ (v := .int .i64 t738) BK741 1; have hcz45_2 := cl_ (v := .bool t739) BK741 2; have hfz45_0 := blk_frozen BK741.out 0; have hfz45_1 := blk_frozen BK741.out 1; have hfz45_2 := blk_frozen BK741.out 2) | ((with_reducible refine gate_callee (f := 35) rfl ?_); refine gl_ 40 Tryd.func35 #[.agg #[.int .i64 t734, .int .i64 t735, .bool t736], .agg #[.int .i64 t737, .int .i64 t738, .bool t739]] (h := ?_); (with_reducible refine (impl_ValJoin.calls kj2 t734 t735 t736 t737 t738 t739 t758 t759 t760 _ ?side1 ?side2 A11.out).mono ?_); (case side1 => exact GL0.below HG0.out (sq_below6 HB.out GE740.out GE741.out GE749.out GE750.out GE756.out GE757.out)); (case side2 => exact GL1.below HG1.out (sq_below6 HB.out GE740.out GE741.out GE749.out GE750.out GE756.out GE757.out)); rintro e w46 ⟨rfl, hb⟩; refine ⟨_, rfl, ?_⟩; replace HO748 := Aside0.mk (Kd.R_below (by (with_reducible repeat (first | apply Kd.R_alloc | apply Kd.R_drewN | apply Kd.R_drew)); exact (Kd.R_mono (Kd.R_mono (Kd.R_far (p := ⟨gb757, 1, none⟩) (Kd.R_far (p := ⟨gb757, 0, none⟩) (Kd.R_far (p := ⟨gb756, 2, none⟩) (Kd.R_far (p := ⟨gb756, 1, none⟩) (Kd.R_far (p := ⟨gb756, 0, none⟩) (Kd.R_types (Kd.R_types HO748.out BK756.out (by decide)) BK757.out (by decide)) (fun _ hk => hk.1.2) (.int .i64 t751)) (fun _ hk => hk.1.2) (.int .i64 t752)) (fun _ hk => hk.1.2) (.bool t753)) (fun _ hk => hk.2) (.bool t754)) (fun _ hk => hk.2) (.int .i64 t755)) (fun _ h_ => h_.1)) (fun _ h_ => h_.1))) hb); replace BK740 := Aside0.mk (blk_below (g := gb740) (o := .cells #[.int .i64 t734, .int .i64 t735, .bool t736] 44 (0, 0)) (by (with_reducible repeat (first | refine blk_drewN ?_ _ | refine blk_drew ?_ | refine blk_alloc ?_ _)); refine blk_far ?_ NB740_757.out _; (with_reducible repeat (first | refine blk_drewN ?_ _ | refine blk_drew ?_ | refine blk_alloc ?_ _)); refine blk_far ?_ NB740_757.out _; (with_reducible repeat (first | refine blk_drewN ?_ _ | refine blk_drew ?_ | refine blk_alloc ?_ _)); refine blk_far ?_ NB740_756.out _; (with_reducible repeat (first | refine blk_drewN ?_ _ | refine blk_drew ?_ | refine blk_alloc ?_ _)); refine blk_far ?_ NB740_756.out _; (with_reducible repeat (first | refine blk_drewN ?_ _ | refine blk_drew ?_ | refine blk_alloc ?_ _)); refine blk_far ?_ NB740_756.out _; (with_reducible repeat (first | refine blk_drewN ?_ _ | refine blk_drew ?_ | refine blk_alloc ?_ _)); exact BK740.out) hb); replace BK741 := Aside0.mk (blk_below (g := gb741) (o := .cells #[.int .i64 t737, .int .i64 t738, .bool t739] 44 (0, 0)) (by (with_reducible repeat (first | refine blk_drewN ?_ _ | refine blk_drew ?_ | refine blk_alloc ?_ _)); refine blk_far ?_ NB741_757.out _; (with_reducible repeat (first | refine blk_drewN ?_ _ | refine blk_drew ?_ | refine blk_alloc ?_ _)); refine blk_far ?_ NB741_757.out _; (with_reducible repeat (first | refine blk_drewN ?_ _ | refine blk_drew ?_ | refine blk_alloc ?_ _)); refine blk_far ?_ NB741_756.out _; (with_reducible repeat (first | refine blk_drewN ?_ _ | refine blk_drew ?_ | refine blk_alloc ?_ _)); refine blk_far ?_ NB741_756.out _; (with_reducible repeat (first | refine blk_drewN ?_ _ | refine blk_drew ?_ | refine blk_alloc ?_ _)); refine blk_far ?_ NB741_756.out _; (with_reducible repeat (first | refine blk_drewN ?_ _ | refine blk_drew ?_ | refine blk_alloc ?_ _)); exact BK741.out) hb); replace BK749 := Aside0.mk (blk_below (g := gb749) (o := .cells #[.int .i64 t742, .int .i64 t743] 25 (0, 0)) (by (with_reducible repeat (first | refine blk_drewN ?_ _ | refine blk_drew ?_ | refine blk_alloc ?_ _)); refine blk_far ?_ NB749_757.out _; (with_reducible repeat (first | refine blk_drewN ?_ _ | refine blk_drew ?_ | refine blk_alloc ?_ _)); refine blk_far ?_ NB749_757.out _; (with_reducible repeat (first | refine blk_drewN ?_ _ | refine blk_drew ?_ | refine blk_alloc ?_ _)); refine blk_far ?_ NB749_756.out _; (with_reducible repeat (first | refine blk_drewN ?_ _ | refine blk_drew ?_ | refine blk_alloc ?_ _)); refine blk_far ?_ NB749_756.out _; (with_reducible repeat (first | refine blk_drewN ?_ _ | refine blk_drew ?_ | refine blk_alloc ?_ _)); refine blk_far ?_ NB749_756.out _; (with_reducible repeat (first | refine blk_drewN ?_ _ | refine blk_drew ?_ | refine blk_alloc ?_ _)); exact BK749.out) hb); replace BK750 := Aside0.mk (blk_below (g := gb750) (o := .cells #[.int .i64 t744, .int .i64 t745] 25 (0, 0)) (by (with_reducible repeat (first | refine blk_drewN ?_ _ | refine blk_drew ?_ | refine blk_alloc ?_ _)); refine blk_far ?_ NB750_757.out _; (with_reducible repeat (first | refine blk_drewN ?_ _ | refine blk_drew ?_ | refine blk_alloc ?_ _)); refine blk_far ?_ NB750_757.out _; (with_reducible repeat (first | refine blk_drewN ?_ _ | refine blk_drew ?_ | refine blk_alloc ?_ _)); refine blk_far ?_ NB750_756.out _; (with_reducible repeat (first | refine blk_drewN ?_ _ | refine blk_drew ?_ | refine blk_alloc ?_ _)); refine blk_far ?_ NB750_756.out _; (with_reducible repeat (first | refine blk_drewN ?_ _ | refine blk_drew ?_ | refine blk_alloc ?_ _)); refine blk_far ?_ NB750_756.out _; (with_reducible repeat (first | refine blk_drewN ?_ _ | refine blk_drew ?_ | refine blk_alloc ?_ _)); exact BK750.out) hb); replace BK756 := Aside0.mk (blk_below (g := gb756) (o := .cells #[.int .i64 t751, .int .i64 t752, .bool t753] 44 (0, 0)) (bp1_ BK756 NB756_757) hb); replace BK757 := Aside0.mk (blk_below (g := gb757) (o := .cells #[.bool t754, .int .i64 t755] 48 (0, 0)) (bp1_ BK757 NB757_756) hb); replace HB := hb6_ HB hb GE740 GE741 GE749 GE750 GE756 GE757; (try clear hb)) | ((with_reducible refine gate_dst (N := 12) rfl ?_); refine box_y 12 #[.int .i64 0, .int .i64 0, .bool false] 44 (h := ?_); intro gb761 hg w47 hbox hb; have n0_ := Aside0.mk (Kd.R_below (sq_row HO748.out) hb); have n1_ := Aside0.mk (blk_below (sq_blk BK740.out) hb); have n2_ := Aside0.mk (blk_below (sq_blk BK741.out) hb); have n3_ := Aside0.mk (blk_below (sq_blk BK749.out) hb); have n4_ := Aside0.mk (blk_below (sq_blk BK750.out) hb); have n5_ := Aside0.mk (blk_below (sq_blk BK756.out) hb); have n6_ := Aside0.mk (blk_below (sq_blk BK757.out) hb); have n7_ := Aside0.mk (below_step (sq_below6 HB.out GE740.out GE741.out GE749.out GE750.out GE756.out GE757.out) hb); have n8_ := Aside0.mk (hbox); have n9_ := ge_ hg (below_size (sq_below6 HB.out GE740.out GE741.out GE749.out GE750.out GE756.out GE757.out)); have n10_ := ge_ hg (below_size (sq_below6 HB.out GE740.out GE741.out GE749.out GE750.out GE756.out GE757.out)); have n11_ := nb_ hg BK740; have n12_ := Aside0.mk (Ne.symm n11_.out); have n13_ := nb_ hg BK741; have n14_ := Aside0.mk (Ne.symm n13_.out); have n15_ := nb_ hg BK749; have n16_ := Aside0.mk (Ne.symm n15_.out); have n17_ := nb_ hg BK750; have n18_ := Aside0.mk (Ne.symm n17_.out); have n19_ := nb_ hg BK756; have n20_ := Aside0.mk (Ne.symm n19_.out); have n21_ := nb_ hg BK757; have n22_ := Aside0.mk (Ne.symm n21_.out); clear HO748; clear BK740; clear BK741; clear BK749; clear BK750; clear BK756; clear BK757; clear HB; have HO748 := n0_; have BK740 := n1_; have BK741 := n2_; have BK749 := n3_; have BK750 := n4_; have BK756 := n5_; have BK757 := n6_; have HB := n7_; have BK761 := n8_; have GW761 := n9_; have GE761 := n10_; have NB740_761 := n11_; have NB761_740 := n12_; have NB741_761 := n13_; have NB761_741 := n14_; have NB749_761 := n15_; have NB761_749 := n16_; have NB750_761 := n17_; have NB761_750 := n18_; have NB756_761 := n19_; have NB761_756 := n20_; have NB757_761 := n21_; have NB761_757 := n22_; clear n0_ n1_ n2_ n3_ n4_ n5_ n6_ n7_ n8_ n9_ n10_ n11_ n12_ n13_ n14_ n15_ n16_ n17_ n18_ n19_ n20_ n21_ n22_; clear hb hbox hg; have hnb48 := NB761_740.out; have hnc48 := NB740_761.out; have hnb49 := NB761_741.out; have hnc49 := NB741_761.out; have hnb50 := NB761_749.out; have hnc50 := NB749_761.out; have hnb51 := NB761_750.out; have hnc51 := NB750_761.out; have hnb52 := NB761_756.out; have hnc52 := NB756_761.out; have hnb53 := NB761_757.out; have hnc53 := NB757_761.out; have hcz54_0 := cl_ (v := .int .i64 0) BK761 0; have hcz54_1 := cl_ (v := .int .i64 0) BK761 1; have hcz54_2 := cl_ (v := .bool false) BK761 2; have hfz54_0 := blk_frozen BK761.out 0; have hfz54_1 := blk_frozen BK761.out 1; have hfz54_2 := blk_frozen BK761.out 2; have hcz55_0 := cl_ (v := .int .i64 t734) BK740 0; have hcz55_1 := cl_ (v := .int .i64 t735) BK740 1; have hcz55_2 := cl_ (v := .bool t736) BK740 2; have hfz55_0 := blk_frozen BK740.out 0; have hfz55_1 := blk_frozen BK740.out 1; have hfz55_2 := blk_frozen BK740.out 2; have hcz56_0 := cl_ (v := .int .i64 t737) BK741 0; have hcz56_1 := cl_ (v := .int .i64 t738) BK741 1; have hcz56_2 := cl_ (v := .bool t739) BK741 2; have hfz56_0 := blk_frozen BK741.out 0; have hfz56_1 := blk_frozen BK741.out 1; have hfz56_2 := blk_frozen BK741.out 2; obtain ⟨Ao57, co57, eo57⟩ := Kd.R_slice HO748.out; subst eo57) | ((with_reducible refine gate_callee (f := 36) rfl ?_); refine gl_ 44 Tryd.func36 #[.agg #[.int .i64 t734, .int .i64 t735, .bool t736], .agg #[.int .i64 t737, .int .i64 t738, .bool t739], .slice Ao57 t746.length co57] (h := ?_); (with_reducible refine (impl_ValWiden.calls kj2 t734 t735 t736 t737 t738 t739 _ _ t746 t762 t763 t764 _ ?side3 ?side4 ?side1 ?side2 A12.out).mono ?_); (case side1 => refine (Kd.R_reads' (e := 3) (base := w.heap.size) (ok := fun k_ => True) (n := t746.length) (c := co57) ?_).2.2; exact (by (with_reducible repeat (first | apply Kd.R_alloc | apply Kd.R_drewN | apply Kd.R_drew)); exact (Kd.R_mono (Kd.R_far (p := ⟨gb761, 2, none⟩) (Kd.R_far (p := ⟨gb761, 1, none⟩) (Kd.R_far (p := ⟨gb761, 0, none⟩) (Kd.R_types HO748.out BK761.out (by decide)) (fun _ hk => hk.2) (.int .i64 t758)) (fun _ hk => hk.2) (.int .i64 t759)) (fun _ hk => hk.2) (.bool t760)) (fun _ h_ => h_.1)))); (case side2 => exact (Kd.R_reads' HO748.out).2.1); (case side3 => exact GL0.below HG0.out (sq_below7 HB.out GE740.out GE741.out GE749.out GE750.out GE756.out GE757.out GE761.out)); (case side4 => exact GL1.below HG1.out (sq_below7 HB.out GE740.out GE741.out GE749.out GE750.out GE756.out GE757.out GE761.out)); rintro e w58 ⟨rfl, hb⟩; refine ⟨_, rfl, ?_⟩; replace HO748 := Aside0.mk (Kd.R_below (by (with_reducible repeat (first | apply Kd.R_alloc | apply Kd.R_drewN | apply Kd.R_drew)); exact (Kd.R_mono (Kd.R_far (p := ⟨gb761, 2, none⟩) (Kd.R_far (p := ⟨gb761, 1, none⟩) (Kd.R_far (p := ⟨gb761, 0, none⟩) (Kd.R_types HO748.out BK761.out (by decide)) (fun _ hk => hk.2) (.int .i64 t758)) (fun _ hk => hk.2) (.int .i64 t759)) (fun _ hk => hk.2) (.bool t760)) (fun _ h_ => h_.1))) hb); replace BK740 := Aside0.mk (blk_below (g := gb740) (o := .cells #[.int .i64 t734, .int .i64 t735, .bool t736] 44 (0, 0)) (bf_ BK740 NB740_761).out hb); replace BK741 := Aside0.mk (blk_below (g := gb741) (o := .cells #[.int .i64 t737, .int .i64 t738, .bool t739] 44 (0, 0)) (bf_ BK741 NB741_761).out hb); replace BK749 := Aside0.mk (blk_below (g := gb749) (o := .cells #[.int .i64 t742, .int .i64 t743] 25 (0, 0)) (bf_ BK749 NB749_761).out hb); replace BK750 := Aside0.mk (blk_below (g := gb750) (o := .cells #[.int .i64 t744, .int .i64 t745] 25 (0, 0)) (bf_ BK750 NB750_761).out hb); replace BK756 := Aside0.mk (blk_below (g := gb756) (o := .cells #[.int .i64 t751, .int .i64 t752, .bool t753] 44 (0, 0)) (bf_ BK756 NB756_761).out hb); replace BK757 := Aside0.mk (blk_below (g := gb757) (o := .cells #[.bool t754, .int .i64 t755] 48 (0, 0)) (bf_ BK757 NB757_761).out hb); replace BK761 := Aside0.mk (blk_below (g := gb761) (o := .cells #[.int .i64 t758, .int .i64 t759, .bool t760] 44 (0, 0)) (bp_ BK761) hb); replace HB := hb7_ HB hb GE740 GE741 GE749 GE750 GE756 GE757 GE761; (try clear hb)) | ((with_reducible refine gate_dst (N := 13) rfl ?_); refine box_y 13 #[.int .i64 0, .int .i64 0, .bool false] 44 (h := ?_); intro gb765 hg w59 hbox hb; have n0_ := Aside0.mk (Kd.R_below (sq_row HO748.out) hb); have n1_ := Aside0.mk (blk_below (sq_blk BK740.out) hb); have n2_ := Aside0.mk (blk_below (sq_blk BK741.out) hb); have n3_ := Aside0.mk (blk_below (sq_blk BK749.out) hb); have n4_ := Aside0.mk (blk_below (sq_blk BK750.out) hb); have n5_ := Aside0.mk (blk_below (sq_blk BK756.out) hb); have n6_ := Aside0.mk (blk_below (sq_blk BK757.out) hb); have n7_ := Aside0.mk (blk_below (sq_blk BK761.out) hb); have n8_ := Aside0.mk (below_step (sq_below7 HB.out GE740.out GE741.out GE749.out GE750.out GE756.out GE757.out GE761.out) hb); have n9_ := Aside0.mk (hbox); have n10_ := ge_ hg (below_size (sq_below7 HB.out GE740.out GE741.out GE749.out GE750.out GE756.out GE757.out GE761.out)); have n11_ := ge_ hg (below_size (sq_below7 HB.out GE740.out GE741.out GE749.out GE750.out GE756.out GE757.out GE761.out)); have n12_ := nb_ hg BK740; have n13_ := Aside0.mk (Ne.symm n12_.out); have n14_ := nb_ hg BK741; have n15_ := Aside0.mk (Ne.symm n14_.out); have n16_ := nb_ hg BK749; have n17_ := Aside0.mk (Ne.symm n16_.out); have n18_ := nb_ hg BK750; have n19_ := Aside0.mk (Ne.symm n18_.out); have n20_ := nb_ hg BK756; have n21_ := Aside0.mk (Ne.symm n20_.out); have n22_ := nb_ hg BK757; have n23_ := Aside0.mk (Ne.symm n22_.out); have n24_ := nb_ hg BK761; have n25_ := Aside0.mk (Ne.symm n24_.out); clear HO748; clear BK740; clear BK741; clear BK749; clear BK750; clear BK756; clear BK757; clear BK761; clear HB; have HO748 := n0_; have BK740 := n1_; have BK741 := n2_; have BK749 := n3_; have BK750 := n4_; have BK756 := n5_; have BK757 := n6_; have BK761 := n7_; have HB := n8_; have BK765 := n9_; have GW765 := n10_; have GE765 := n11_; have NB740_765 := n12_; have NB765_740 := n13_; have NB741_765 := n14_; have NB765_741 := n15_; have NB749_765 := n16_; have NB765_749 := n17_; have NB750_765 := n18_; have NB765_750 := n19_; have NB756_765 := n20_; have NB765_756 := n21_; have NB757_765 := n22_; have NB765_757 := n23_; have NB761_765 := n24_; have NB765_761 := n25_; clear n0_ n1_ n2_ n3_ n4_ n5_ n6_ n7_ n8_ n9_ n10_ n11_ n12_ n13_ n14_ n15_ n16_ n17_ n18_ n19_ n20_ n21_ n22_ n23_ n24_ n25_; clear hb hbox hg; have hnb60 := NB765_740.out; have hnc60 := NB740_765.out; have hnb61 := NB765_741.out; have hnc61 := NB741_765.out; have hnb62 := NB765_749.out; have hnc62 := NB749_765.out; have hnb63 := NB765_750.out; have hnc63 := NB750_765.out; have hnb64 := NB765_756.out; have hnc64 := NB756_765.out; have hnb65 := NB765_757.out; have hnc65 := NB757_765.out; have hnb66 := NB765_761.out; have hnc66 := NB761_765.out; have hcz67_0 := cl_ (v := .int .i64 0) BK765 0; have hcz67_1 := cl_ (v := .int .i64 0) BK765 1; have hcz67_2 := cl_ (v := .bool false) BK765 2; have hfz67_0 := blk_frozen BK765.out 0; have hfz67_1 := blk_frozen BK765.out 1; have hfz67_2 := blk_frozen BK765.out 2))
    (try simp only [Act.put, List.setIfInBounds_toArray, List.set_cons_zero, List.set_cons_succ])
    go_cut [66] (fun v66 wc => ∃ (kq : Nat) (x66_12 : Bool), v66 = .bool x66_12 ∧ Aside0 (laws_FnVals.j1 kq x66_12 t734 t735 t736 t737 t738 t739 t754 t755 t758 t759 t760 = some r) ∧ Aside0 (kq ≤ kj2) ∧ Aside0 (wc.heap[gb740]? = some (.cells #[.int .i64 t734, .int .i64 t735, .bool t736] 44 (0, 0))) ∧ Aside0 (wc.heap[gb741]? = some (.cells #[.int .i64 t737, .int .i64 t738, .bool t739] 44 (0, 0))) ∧ Aside0 (wc.heap[gb749]? = some (.cells #[.int .i64 t742, .int .i64 t743] 25 (0, 0))) ∧ Aside0 (wc.heap[gb750]? = some (.cells #[.int .i64 t744, .int .i64 t745] 25 (0, 0))) ∧ Aside0 (wc.heap[gb756]? = some (.cells #[.int .i64 t751, .int .i64 t752, .bool t753] 44 (0, 0))) ∧ Aside0 (wc.heap[gb757]? = some (.cells #[.bool t754, .int .i64 t755] 48 (0, 0))) ∧ Aside0 (wc.heap[gb761]? = some (.cells #[.int .i64 t758, .int .i64 t759, .bool t760] 44 (0, 0))) ∧ Aside0 (wc.heap[gb765]? = some (.cells #[.int .i64 t762, .int .i64 t763, .bool t764] 44 (0, 0))) ∧ Aside0 (Below w.heap.size w wc))
    case first =>
     have H := HC13.out; clear HC13; replace H := Option.bind_eq_some_iff.mp H; obtain ⟨⟨t766, t767, t768⟩, A680, H⟩ := H; (try dsimp only at H); have A68 := Aside0.mk A680; clear A680
     by_cases c69 : ((!(t758 == t766) || (!(t759 == t767))) || (!(t760 == t768))) = true
     ·
      rw [if_pos c69] at H; have c69b0 : ((!(t758 == t766) || (!(t759 == t767))) || (!(t760 == t768))) = true := c69; clear c69
      (first | rw [c69b0] | (simp only [i64_w, i32_w]; rw [c69b0]) | skip)
      have H' := Aside0.mk H; clear H
      try go_wp2
      have n0_ : Aside0 (Kd.R (Kd.int .i64) 3 (((w59.setCell ⟨gb765, 0, none⟩ (.int .i64 t762)).setCell ⟨gb765, 1, none⟩ (.int .i64 t763)).setCell ⟨gb765, 2, none⟩ (.bool t764)) w.heap.size (fun _ => True) (.slice Ao57 t746.length co57) t746) := ⟨by (with_reducible repeat (first | apply Kd.R_alloc | apply Kd.R_drewN | apply Kd.R_drew)); exact Kd.R_mono (Kd.R_far (p := ⟨gb765, 2, none⟩) (Kd.R_far (p := ⟨gb765, 1, none⟩) (Kd.R_far (p := ⟨gb765, 0, none⟩) (Kd.R_types HO748.out BK765.out (by decide)) (fun _ hk => hk.2) (.int .i64 t762)) (fun _ hk => hk.2) (.int .i64 t763)) (fun _ hk => hk.2) (.bool t764)) (fun _ hk => trivial)⟩; have n1_ : Aside0 ((((w59.setCell ⟨gb765, 0, none⟩ (.int .i64 t762)).setCell ⟨gb765, 1, none⟩ (.int .i64 t763)).setCell ⟨gb765, 2, none⟩ (.bool t764)).heap[gb740]? = some (.cells #[.int .i64 t734, .int .i64 t735, .bool t736] 44 (0, 0))) := bf_ BK740 NB740_765; have n2_ : Aside0 ((((w59.setCell ⟨gb765, 0, none⟩ (.int .i64 t762)).setCell ⟨gb765, 1, none⟩ (.int .i64 t763)).setCell ⟨gb765, 2, none⟩ (.bool t764)).heap[gb741]? = some (.cells #[.int .i64 t737, .int .i64 t738, .bool t739] 44 (0, 0))) := bf_ BK741 NB741_765; have n3_ : Aside0 ((((w59.setCell ⟨gb765, 0, none⟩ (.int .i64 t762)).setCell ⟨gb765, 1, none⟩ (.int .i64 t763)).setCell ⟨gb765, 2, none⟩ (.bool t764)).heap[gb749]? = some (.cells #[.int .i64 t742, .int .i64 t743] 25 (0, 0))) := bf_ BK749 NB749_765; have n4_ : Aside0 ((((w59.setCell ⟨gb765, 0, none⟩ (.int .i64 t762)).setCell ⟨gb765, 1, none⟩ (.int .i64 t763)).setCell ⟨gb765, 2, none⟩ (.bool t764)).heap[gb750]? = some (.cells #[.int .i64 t744, .int .i64 t745] 25 (0, 0))) := bf_ BK750 NB750_765; have n5_ : Aside0 ((((w59.setCell ⟨gb765, 0, none⟩ (.int .i64 t762)).setCell ⟨gb765, 1, none⟩ (.int .i64 t763)).setCell ⟨gb765, 2, none⟩ (.bool t764)).heap[gb756]? = some (.cells #[.int .i64 t751, .int .i64 t752, .bool t753] 44 (0, 0))) := bf_ BK756 NB756_765; have n6_ : Aside0 ((((w59.setCell ⟨gb765, 0, none⟩ (.int .i64 t762)).setCell ⟨gb765, 1, none⟩ (.int .i64 t763)).setCell ⟨gb765, 2, none⟩ (.bool t764)).heap[gb757]? = some (.cells #[.bool t754, .int .i64 t755] 48 (0, 0))) := bf_ BK757 NB757_765; have n7_ : Aside0 ((((w59.setCell ⟨gb765, 0, none⟩ (.int .i64 t762)).setCell ⟨gb765, 1, none⟩ (.int .i64 t763)).setCell ⟨gb765, 2, none⟩ (.bool t764)).heap[gb761]? = some (.cells #[.int .i64 t758, .int .i64 t759, .bool t760] 44 (0, 0))) := bf_ BK761 NB761_765; have n8_ : Aside0 ((((w59.setCell ⟨gb765, 0, none⟩ (.int .i64 t762)).setCell ⟨gb765, 1, none⟩ (.int .i64 t763)).setCell ⟨gb765, 2, none⟩ (.bool t764)).heap[gb765]? = some (.cells #[.int .i64 t762, .int .i64 t763, .bool t764] 44 (0, 0))) := ⟨by (with_reducible repeat (first | refine blk_drewN ?_ _ | refine blk_drew ?_ | refine blk_alloc ?_ _)); refine blk_put (cs := #[.int .i64 t762, .int .i64 t763, .bool false]) ?_ 2 _ rfl; (with_reducible repeat (first | refine blk_drewN ?_ _ | refine blk_drew ?_ | refine blk_alloc ?_ _)); refine blk_put (cs := #[.int .i64 t762, .int .i64 0, .bool false]) ?_ 1 _ rfl; (with_reducible repeat (first | refine blk_drewN ?_ _ | refine blk_drew ?_ | refine blk_alloc ?_ _)); refine blk_put (cs := #[.int .i64 0, .int .i64 0, .bool false]) ?_ 0 _ rfl; (with_reducible repeat (first | refine blk_drewN ?_ _ | refine blk_drew ?_ | refine blk_alloc ?_ _)); exact BK765.out⟩; have n9_ : Aside0 (Below w.heap.size w (((w59.setCell ⟨gb765, 0, none⟩ (.int .i64 t762)).setCell ⟨gb765, 1, none⟩ (.int .i64 t763)).setCell ⟨gb765, 2, none⟩ (.bool t764))) := ⟨by repeat (first | (with_reducible first | exact HB.out | apply below_alloc | apply pw_below_drewN | apply below_drew1 | refine below_set ?_ GE740.out | refine below_set ?_ GE741.out | refine below_set ?_ GE749.out | refine below_set ?_ GE750.out | refine below_set ?_ GE756.out | refine below_set ?_ GE757.out | refine below_set ?_ GE761.out | refine below_set ?_ GE765.out) | exact HB.out)⟩
      (try clear HO748)
      (try clear BK740)
      (try clear BK741)
      (try clear BK749)
      (try clear BK750)
      (try clear BK756)
      (try clear BK757)
      (try clear BK761)
      (try clear BK765)
      (try clear HB)
      generalize (((w59.setCell ⟨gb765, 0, none⟩ (.int .i64 t762)).setCell ⟨gb765, 1, none⟩ (.int .i64 t763)).setCell ⟨gb765, 2, none⟩ (.bool t764)) = w70 at n0_ n1_ n2_ n3_ n4_ n5_ n6_ n7_ n8_ n9_ ⊢; have HO748 := n0_; have BK740 := n1_; have BK741 := n2_; have BK749 := n3_; have BK750 := n4_; have BK756 := n5_; have BK757 := n6_; have BK761 := n7_; have BK765 := n8_; have HB := n9_; clear n0_ n1_ n2_ n3_ n4_ n5_ n6_ n7_ n8_ n9_; replace HO748 := Aside0.mk (Kd.R_drew HO748.out); replace BK740 := bd_ BK740; replace BK741 := bd_ BK741; replace BK749 := bd_ BK749; replace BK750 := bd_ BK750; replace BK756 := bd_ BK756; replace BK757 := bd_ BK757; replace BK761 := bd_ BK761; replace BK765 := bd_ BK765; replace HB := hd_ HB; refine start_ (n := 22) (S := fun w' => w'.cell? ⟨gb761, 0, none⟩ = some (.int .i64 t758) ∧ w'.cell? ⟨gb761, 1, none⟩ = some (.int .i64 t759) ∧ w'.cell? ⟨gb761, 2, none⟩ = some (.bool t760) ∧ w'.cell? ⟨gb740, 0, none⟩ = some (.int .i64 t734) ∧ w'.cell? ⟨gb740, 1, none⟩ = some (.int .i64 t735) ∧ w'.cell? ⟨gb740, 2, none⟩ = some (.bool t736) ∧ w'.cell? ⟨gb741, 0, none⟩ = some (.int .i64 t737) ∧ w'.cell? ⟨gb741, 1, none⟩ = some (.int .i64 t738) ∧ w'.cell? ⟨gb741, 2, none⟩ = some (.bool t739)) (ds := []) laws_FnVals.b0_ (by kernel_rfl) rfl rfl ⟨cl_ BK761 0, cl_ BK761 1, cl_ BK761 2, cl_ BK740 0, cl_ BK740 1, cl_ BK740 2, cl_ BK741 0, cl_ BK741 1, cl_ BK741 2⟩ (fun hHeld => ?_); refine with_tabW laws_FnVals.tab8 laws_FnVals.bits8 (fun HT_ HW_ => ?_); generalize w70.drew = w71 at HO748 BK740 BK741 BK749 BK750 BK756 BK757 BK761 BK765 HB hHeld ⊢; refine take_y 0 (some 45) laws_FnVals.b1_ rfl (take_ofW HT_.out HW_.out (by kernel_rfl)) hHeld (Or.inl ⟨by rfl, (by rintro w' ⟨s0, s1, s2, s3, s4, s5, s6, s7, s8⟩; go_simp; with_reducible rfl)⟩) (h := ?_)
      refine take_y 1 (some 46) laws_FnVals.b2_ rfl (take_ofW HT_.out HW_.out (by kernel_rfl)) hHeld (Or.inl ⟨by rfl, (by rintro w' ⟨s0, s1, s2, s3, s4, s5, s6, s7, s8⟩; go_simp; with_reducible rfl)⟩) (h := ?_)
      refine take_y 2 (some 47) laws_FnVals.b3_ rfl (take_ofW HT_.out HW_.out (by kernel_rfl)) hHeld (Or.inl ⟨by rfl, (by rintro w' ⟨s0, s1, s2, s3, s4, s5, s6, s7, s8⟩; go_simp; with_reducible rfl)⟩) (h := ?_)
      refine one_ (i := 3) (N := some 48) laws_FnVals.b4_ rfl rfl (one_of HT_.out (by kernel_rfl)) (by decide) (fun K hK => ?_); refine gs_ Tryd.func37 #[.agg #[.int .i64 t734, .int .i64 t735, .bool t736], .agg #[.int .i64 t737, .int .i64 t738, .bool t739]] (h := ?_); with_reducible refine (spec_ValJoin.calls kj2 t734 t735 t736 t737 t738 t739 t766 t767 t768 _ A68.out).mono ?_
      rintro e w72 ⟨rfl, hb⟩; refine ⟨_, rfl, ?_⟩; replace HO748 := Aside0.mk (Kd.R_below (sq_row HO748.out) hb); replace BK740 := bb_ BK740 hb; replace BK741 := bb_ BK741 hb; replace BK749 := bb_ BK749 hb; replace BK750 := bb_ BK750 hb; replace BK756 := bb_ BK756 hb; replace BK757 := bb_ BK757 hb; replace BK761 := bb_ BK761 hb; replace BK765 := bb_ BK765 hb; replace HB := hb8_ HB hb GE740 GE741 GE749 GE750 GE756 GE757 GE761 GE765
      (try clear hb)
      (try clear hb2)
      (try clear hk)
      (try clear hi)
      refine hK.out _ _ ⟨cl_ BK761 0, cl_ BK761 1, cl_ BK761 2, cl_ BK740 0, cl_ BK740 1, cl_ BK740 2, cl_ BK741 0, cl_ BK741 1, cl_ BK741 2⟩ (fun hHeld => ?_); clear hK K; refine norm_y (h := ?_)
      refine pure_y 4 (some 49) laws_FnVals.b5_ (any_of HT_.out (by kernel_rfl)) (h := ?_)
      refine pure_y 5 (some 50) laws_FnVals.b6_ (any_of HT_.out (by kernel_rfl)) (h := ?_)
      refine pure_n 6 (some 51) #[true, true, true, true, true, true, true, false, false, false, false, false, false, false, false, false, false, false, false, false, false, false] (any_of HT_.out (by kernel_rfl)) (h := ?_)
      refine pure_n 7 (some 52) #[true, true, true, true, true, true, true, true, false, false, false, false, false, false, false, false, false, false, false, false, false, false] (any_of HT_.out (by kernel_rfl)) (h := ?_)
      refine pure_n 8 (some 53) #[true, true, true, true, true, true, true, true, true, false, false, false, false, false, false, false, false, false, false, false, false, false] (any_of HT_.out (by kernel_rfl)) (h := ?_)
      refine pure_n 9 (some 54) laws_FnVals.b10_ (any_of HT_.out (by kernel_rfl)) (h := ?_)
      refine pure_n 10 (some 55) laws_FnVals.b11_ (any_of HT_.out (by kernel_rfl)) (h := ?_)
      refine pure_n 11 (some 56) laws_FnVals.b12_ (any_of HT_.out (by kernel_rfl)) (h := ?_)
      refine pure_y 12 (some 57) laws_FnVals.b13_ (any_of HT_.out (by kernel_rfl)) (h := ?_)
      refine pure_y 13 (some 58) laws_FnVals.b14_ (any_of HT_.out (by kernel_rfl)) (h := ?_)
      refine pure_n 14 (some 59) laws_FnVals.b15_ (any_of HT_.out (by kernel_rfl)) (h := ?_)
      refine pure_n 15 (some 60) laws_FnVals.b16_ (any_of HT_.out (by kernel_rfl)) (h := ?_)
      refine pure_n 16 (some 61) laws_FnVals.b17_ (any_of HT_.out (by kernel_rfl)) (h := ?_)
      refine pure_n 17 (some 62) laws_FnVals.b18_ (any_of HT_.out (by kernel_rfl)) (h := ?_)
      refine pure_n 18 (some 63) laws_FnVals.b19_ (any_of HT_.out (by kernel_rfl)) (h := ?_)
      refine pure_n 19 (some 64) laws_FnVals.b20_ (any_of HT_.out (by kernel_rfl)) (h := ?_)
      refine pure_n 20 (some 65) laws_FnVals.b21_ (any_of HT_.out (by kernel_rfl)) (h := ?_)
      refine pure_y 21 (some 66) laws_FnVals.b22_ (any_of HT_.out (by kernel_rfl)) (h := ?_)
      refine done_ (done_of HT_.out (by kernel_rfl)) ?_
      try go_wp2
      go_meet
      case rel => exact ⟨_, (true), (by first | rfl | (simp; done) | (simp [*]; done)), H', ⟨by have := HJ2.out; first | omega | exact Nat.le_refl _⟩, bk_ BK740, bk_ BK741, bk_ BK749, bk_ BK750, bk_ BK756, bk_ BK757, bk_ BK761, bk_ BK765, ⟨by repeat (first | (with_reducible first | exact HB.out | apply below_alloc | apply pw_below_drewN | apply below_drew1 | refine below_set ?_ GE740.out | refine below_set ?_ GE741.out | refine below_set ?_ GE749.out | refine below_set ?_ GE750.out | refine below_set ?_ GE756.out | refine below_set ?_ GE757.out | refine below_set ?_ GE761.out | refine below_set ?_ GE765.out) | exact HB.out)⟩⟩
     ·
      rw [if_neg c69] at H; have c69b0 : ((!(t758 == t766) || (!(t759 == t767))) || (!(t760 == t768))) = false := by simpa using c69
      clear c69
      (first | rw [c69b0] | (simp only [i64_w, i32_w]; rw [c69b0]) | skip)
      replace H := Option.bind_eq_some_iff.mp H; obtain ⟨⟨t769, t770, t771⟩, A730, H⟩ := H; (try dsimp only at H); have A73 := Aside0.mk A730; clear A730
      by_cases c74 : ((!(t762 == t769) || (!(t763 == t770))) || (!(t764 == t771))) = true
      ·
       rw [if_pos c74] at H; have c74b0 : ((!(t762 == t769) || (!(t763 == t770))) || (!(t764 == t771))) = true := c74; clear c74; have H' := Aside0.mk H; clear H
       try go_wp2
       have n0_ : Aside0 (Kd.R (Kd.int .i64) 3 (((w59.setCell ⟨gb765, 0, none⟩ (.int .i64 t762)).setCell ⟨gb765, 1, none⟩ (.int .i64 t763)).setCell ⟨gb765, 2, none⟩ (.bool t764)) w.heap.size (fun _ => True) (.slice Ao57 t746.length co57) t746) := ⟨by (with_reducible repeat (first | apply Kd.R_alloc | apply Kd.R_drewN | apply Kd.R_drew)); exact Kd.R_mono (Kd.R_far (p := ⟨gb765, 2, none⟩) (Kd.R_far (p := ⟨gb765, 1, none⟩) (Kd.R_far (p := ⟨gb765, 0, none⟩) (Kd.R_types HO748.out BK765.out (by decide)) (fun _ hk => hk.2) (.int .i64 t762)) (fun _ hk => hk.2) (.int .i64 t763)) (fun _ hk => hk.2) (.bool t764)) (fun _ hk => trivial)⟩; have n1_ : Aside0 ((((w59.setCell ⟨gb765, 0, none⟩ (.int .i64 t762)).setCell ⟨gb765, 1, none⟩ (.int .i64 t763)).setCell ⟨gb765, 2, none⟩ (.bool t764)).heap[gb740]? = some (.cells #[.int .i64 t734, .int .i64 t735, .bool t736] 44 (0, 0))) := bf_ BK740 NB740_765; have n2_ : Aside0 ((((w59.setCell ⟨gb765, 0, none⟩ (.int .i64 t762)).setCell ⟨gb765, 1, none⟩ (.int .i64 t763)).setCell ⟨gb765, 2, none⟩ (.bool t764)).heap[gb741]? = some (.cells #[.int .i64 t737, .int .i64 t738, .bool t739] 44 (0, 0))) := bf_ BK741 NB741_765; have n3_ : Aside0 ((((w59.setCell ⟨gb765, 0, none⟩ (.int .i64 t762)).setCell ⟨gb765, 1, none⟩ (.int .i64 t763)).setCell ⟨gb765, 2, none⟩ (.bool t764)).heap[gb749]? = some (.cells #[.int .i64 t742, .int .i64 t743] 25 (0, 0))) := bf_ BK749 NB749_765; have n4_ : Aside0 ((((w59.setCell ⟨gb765, 0, none⟩ (.int .i64 t762)).setCell ⟨gb765, 1, none⟩ (.int .i64 t763)).setCell ⟨gb765, 2, none⟩ (.bool t764)).heap[gb750]? = some (.cells #[.int .i64 t744, .int .i64 t745] 25 (0, 0))) := bf_ BK750 NB750_765; have n5_ : Aside0 ((((w59.setCell ⟨gb765, 0, none⟩ (.int .i64 t762)).setCell ⟨gb765, 1, none⟩ (.int .i64 t763)).setCell ⟨gb765, 2, none⟩ (.bool t764)).heap[gb756]? = some (.cells #[.int .i64 t751, .int .i64 t752, .bool t753] 44 (0, 0))) := bf_ BK756 NB756_765; have n6_ : Aside0 ((((w59.setCell ⟨gb765, 0, none⟩ (.int .i64 t762)).setCell ⟨gb765, 1, none⟩ (.int .i64 t763)).setCell ⟨gb765, 2, none⟩ (.bool t764)).heap[gb757]? = some (.cells #[.bool t754, .int .i64 t755] 48 (0, 0))) := bf_ BK757 NB757_765; have n7_ : Aside0 ((((w59.setCell ⟨gb765, 0, none⟩ (.int .i64 t762)).setCell ⟨gb765, 1, none⟩ (.int .i64 t763)).setCell ⟨gb765, 2, none⟩ (.bool t764)).heap[gb761]? = some (.cells #[.int .i64 t758, .int .i64 t759, .bool t760] 44 (0, 0))) := bf_ BK761 NB761_765; have n8_ : Aside0 ((((w59.setCell ⟨gb765, 0, none⟩ (.int .i64 t762)).setCell ⟨gb765, 1, none⟩ (.int .i64 t763)).setCell ⟨gb765, 2, none⟩ (.bool t764)).heap[gb765]? = some (.cells #[.int .i64 t762, .int .i64 t763, .bool t764] 44 (0, 0))) := ⟨by (with_reducible repeat (first | refine blk_drewN ?_ _ | refine blk_drew ?_ | refine blk_alloc ?_ _)); refine blk_put (cs := #[.int .i64 t762, .int .i64 t763, .bool false]) ?_ 2 _ rfl; (with_reducible repeat (first | refine blk_drewN ?_ _ | refine blk_drew ?_ | refine blk_alloc ?_ _)); refine blk_put (cs := #[.int .i64 t762, .int .i64 0, .bool false]) ?_ 1 _ rfl; (with_reducible repeat (first | refine blk_drewN ?_ _ | refine blk_drew ?_ | refine blk_alloc ?_ _)); refine blk_put (cs := #[.int .i64 0, .int .i64 0, .bool false]) ?_ 0 _ rfl; (with_reducible repeat (first | refine blk_drewN ?_ _ | refine blk_drew ?_ | refine blk_alloc ?_ _)); exact BK765.out⟩; have n9_ : Aside0 (Below w.heap.size w (((w59.setCell ⟨gb765, 0, none⟩ (.int .i64 t762)).setCell ⟨gb765, 1, none⟩ (.int .i64 t763)).setCell ⟨gb765, 2, none⟩ (.bool t764))) := ⟨by repeat (first | (with_reducible first | exact HB.out | apply below_alloc | apply pw_below_drewN | apply below_drew1 | refine below_set ?_ GE740.out | refine below_set ?_ GE741.out | refine below_set ?_ GE749.out | refine below_set ?_ GE750.out | refine below_set ?_ GE756.out | refine below_set ?_ GE757.out | refine below_set ?_ GE761.out | refine below_set ?_ GE765.out) | exact HB.out)⟩
       (try clear HO748)
       (try clear BK740)
       (try clear BK741)
       (try clear BK749)
       (try clear BK750)
       (try clear BK756)
       (try clear BK757)
       (try clear BK761)
       (try clear BK765)
       (try clear HB)
       generalize (((w59.setCell ⟨gb765, 0, none⟩ (.int .i64 t762)).setCell ⟨gb765, 1, none⟩ (.int .i64 t763)).setCell ⟨gb765, 2, none⟩ (.bool t764)) = w75 at n0_ n1_ n2_ n3_ n4_ n5_ n6_ n7_ n8_ n9_ ⊢; have HO748 := n0_; have BK740 := n1_; have BK741 := n2_; have BK749 := n3_; have BK750 := n4_; have BK756 := n5_; have BK757 := n6_; have BK761 := n7_; have BK765 := n8_; have HB := n9_; clear n0_ n1_ n2_ n3_ n4_ n5_ n6_ n7_ n8_ n9_; replace HO748 := Aside0.mk (Kd.R_drew HO748.out); replace BK740 := bd_ BK740; replace BK741 := bd_ BK741; replace BK749 := bd_ BK749; replace BK750 := bd_ BK750; replace BK756 := bd_ BK756; replace BK757 := bd_ BK757; replace BK761 := bd_ BK761; replace BK765 := bd_ BK765; replace HB := hd_ HB; refine start_ (n := 22) (S := fun w' => w'.cell? ⟨gb761, 0, none⟩ = some (.int .i64 t758) ∧ w'.cell? ⟨gb761, 1, none⟩ = some (.int .i64 t759) ∧ w'.cell? ⟨gb761, 2, none⟩ = some (.bool t760) ∧ w'.cell? ⟨gb740, 0, none⟩ = some (.int .i64 t734) ∧ w'.cell? ⟨gb740, 1, none⟩ = some (.int .i64 t735) ∧ w'.cell? ⟨gb740, 2, none⟩ = some (.bool t736) ∧ w'.cell? ⟨gb741, 0, none⟩ = some (.int .i64 t737) ∧ w'.cell? ⟨gb741, 1, none⟩ = some (.int .i64 t738) ∧ w'.cell? ⟨gb741, 2, none⟩ = some (.bool t739) ∧ w'.cell? ⟨gb765, 0, none⟩ = some (.int .i64 t762) ∧ w'.cell? ⟨gb765, 1, none⟩ = some (.int .i64 t763) ∧ w'.cell? ⟨gb765, 2, none⟩ = some (.bool t764)) (ds := []) laws_FnVals.b0_ (by kernel_rfl) rfl rfl ⟨cl_ BK761 0, cl_ BK761 1, cl_ BK761 2, cl_ BK740 0, cl_ BK740 1, cl_ BK740 2, cl_ BK741 0, cl_ BK741 1, cl_ BK741 2, cl_ BK765 0, cl_ BK765 1, cl_ BK765 2⟩ (fun hHeld => ?_); refine with_tabW laws_FnVals.tab8 laws_FnVals.bits8 (fun HT_ HW_ => ?_); generalize w75.drew = w76 at HO748 BK740 BK741 BK749 BK750 BK756 BK757 BK761 BK765 HB hHeld ⊢; refine take_y 0 (some 45) laws_FnVals.b1_ rfl (take_ofW HT_.out HW_.out (by kernel_rfl)) hHeld (Or.inl ⟨by rfl, (by rintro w' ⟨s0, s1, s2, s3, s4, s5, s6, s7, s8, s9, s10, s11⟩; go_simp; with_reducible rfl)⟩) (h := ?_)
       refine take_y 1 (some 46) laws_FnVals.b2_ rfl (take_ofW HT_.out HW_.out (by kernel_rfl)) hHeld (Or.inl ⟨by rfl, (by rintro w' ⟨s0, s1, s2, s3, s4, s5, s6, s7, s8, s9, s10, s11⟩; go_simp; with_reducible rfl)⟩) (h := ?_)
       refine take_y 2 (some 47) laws_FnVals.b3_ rfl (take_ofW HT_.out HW_.out (by kernel_rfl)) hHeld (Or.inl ⟨by rfl, (by rintro w' ⟨s0, s1, s2, s3, s4, s5, s6, s7, s8, s9, s10, s11⟩; go_simp; with_reducible rfl)⟩) (h := ?_)
       refine one_ (i := 3) (N := some 48) laws_FnVals.b4_ rfl rfl (one_of HT_.out (by kernel_rfl)) (by decide) (fun K hK => ?_); refine gs_ Tryd.func37 #[.agg #[.int .i64 t734, .int .i64 t735, .bool t736], .agg #[.int .i64 t737, .int .i64 t738, .bool t739]] (h := ?_); with_reducible refine (spec_ValJoin.calls kj2 t734 t735 t736 t737 t738 t739 t766 t767 t768 _ A68.out).mono ?_
       rintro e w77 ⟨rfl, hb⟩; refine ⟨_, rfl, ?_⟩; replace HO748 := Aside0.mk (Kd.R_below (sq_row HO748.out) hb); replace BK740 := bb_ BK740 hb; replace BK741 := bb_ BK741 hb; replace BK749 := bb_ BK749 hb; replace BK750 := bb_ BK750 hb; replace BK756 := bb_ BK756 hb; replace BK757 := bb_ BK757 hb; replace BK761 := bb_ BK761 hb; replace BK765 := bb_ BK765 hb; replace HB := hb8_ HB hb GE740 GE741 GE749 GE750 GE756 GE757 GE761 GE765
       (try clear hb)
       (try clear hb2)
       (try clear hk)
       (try clear hi)
       refine hK.out _ _ ⟨cl_ BK761 0, cl_ BK761 1, cl_ BK761 2, cl_ BK740 0, cl_ BK740 1, cl_ BK740 2, cl_ BK741 0, cl_ BK741 1, cl_ BK741 2, cl_ BK765 0, cl_ BK765 1, cl_ BK765 2⟩ (fun hHeld => ?_); clear hK K; refine norm_y (h := ?_)
       refine pure_y 4 (some 49) laws_FnVals.b5_ (any_of HT_.out (by kernel_rfl)) (h := ?_)
       refine pure_y 5 (some 50) laws_FnVals.b6_ (any_of HT_.out (by kernel_rfl)) (h := ?_)
       refine pure_y 9 (some 54) laws_FnVals.b7_ (any_of HT_.out (by kernel_rfl)) (h := ?_)
       refine take_y 6 (some 51) laws_FnVals.b8_ rfl (take_ofW HT_.out HW_.out (by kernel_rfl)) hHeld (Or.inl ⟨by rfl, (by rintro w' ⟨s0, s1, s2, s3, s4, s5, s6, s7, s8, s9, s10, s11⟩; go_simp; with_reducible rfl)⟩) (h := ?_)
       refine take_y 7 (some 52) laws_FnVals.b9_ rfl (take_ofW HT_.out HW_.out (by kernel_rfl)) hHeld (Or.inl ⟨by rfl, (by rintro w' ⟨s0, s1, s2, s3, s4, s5, s6, s7, s8, s9, s10, s11⟩; go_simp; with_reducible rfl)⟩) (h := ?_)
       refine take_y 8 (some 53) laws_FnVals.b10_ rfl (take_ofW HT_.out HW_.out (by kernel_rfl)) hHeld (Or.inl ⟨by rfl, (by rintro w' ⟨s0, s1, s2, s3, s4, s5, s6, s7, s8, s9, s10, s11⟩; go_simp; with_reducible rfl)⟩) (h := ?_)
       refine one_ (i := 10) (N := some 55) laws_FnVals.b11_ rfl rfl (one_of HT_.out (by kernel_rfl)) (by decide) (fun K hK => ?_); refine gs_ Tryd.func38 #[.agg #[.int .i64 t734, .int .i64 t735, .bool t736], .agg #[.int .i64 t737, .int .i64 t738, .bool t739], .slice Ao57 t746.length co57] (h := ?_); with_reducible refine (spec_ValWiden.calls kj2 t734 t735 t736 t737 t738 t739 _ _ t746 t769 t770 t771 _ ?side1 ?side2 A73.out).mono ?_
       (case side1 => repeat (first | exact (Kd.R_reads' HO748.out).2.2 | (with_reducible refine Kd.C_alloc ?_ _) | (with_reducible refine Kd.C_drewN ?_ _) | (with_reducible refine Kd.C_drew ?_)))
       (case side2 => exact (Kd.R_reads' HO748.out).2.1)
       rintro e w78 ⟨rfl, hb⟩; refine ⟨_, rfl, ?_⟩; replace HO748 := Aside0.mk (Kd.R_below (sq_row HO748.out) hb); replace BK740 := bb_ BK740 hb; replace BK741 := bb_ BK741 hb; replace BK749 := bb_ BK749 hb; replace BK750 := bb_ BK750 hb; replace BK756 := bb_ BK756 hb; replace BK757 := bb_ BK757 hb; replace BK761 := bb_ BK761 hb; replace BK765 := bb_ BK765 hb; replace HB := hb8_ HB hb GE740 GE741 GE749 GE750 GE756 GE757 GE761 GE765
       (try clear hb)
       (try clear hb2)
       (try clear hk)
       (try clear hi)
       refine hK.out _ _ ⟨cl_ BK761 0, cl_ BK761 1, cl_ BK761 2, cl_ BK740 0, cl_ BK740 1, cl_ BK740 2, cl_ BK741 0, cl_ BK741 1, cl_ BK741 2, cl_ BK765 0, cl_ BK765 1, cl_ BK765 2⟩ (fun hHeld => ?_); clear hK K; refine norm_y (h := ?_)
       refine pure_y 11 (some 56) laws_FnVals.b12_ (any_of HT_.out (by kernel_rfl)) (h := ?_)
       refine pure_y 12 (some 57) laws_FnVals.b13_ (any_of HT_.out (by kernel_rfl)) (h := ?_)
       refine pure_y 13 (some 58) laws_FnVals.b14_ (any_of HT_.out (by kernel_rfl)) (h := ?_)
       refine pure_n 14 (some 59) laws_FnVals.b15_ (any_of HT_.out (by kernel_rfl)) (h := ?_)
       refine pure_n 15 (some 60) laws_FnVals.b16_ (any_of HT_.out (by kernel_rfl)) (h := ?_)
       refine pure_n 16 (some 61) laws_FnVals.b17_ (any_of HT_.out (by kernel_rfl)) (h := ?_)
       refine pure_n 17 (some 62) laws_FnVals.b18_ (any_of HT_.out (by kernel_rfl)) (h := ?_)
       refine pure_n 18 (some 63) laws_FnVals.b19_ (any_of HT_.out (by kernel_rfl)) (h := ?_)
       refine pure_n 19 (some 64) laws_FnVals.b20_ (any_of HT_.out (by kernel_rfl)) (h := ?_)
       refine pure_n 20 (some 65) laws_FnVals.b21_ (any_of HT_.out (by kernel_rfl)) (h := ?_)
       refine pure_y 21 (some 66) laws_FnVals.b22_ (any_of HT_.out (by kernel_rfl)) (h := ?_)
       refine done_ (done_of HT_.out (by kernel_rfl)) ?_
       try go_wp2
       go_meet
       case rel => exact ⟨_, (true), (by first | rfl | (simp; done) | (simp [*]; done)), H', ⟨by have := HJ2.out; first | omega | exact Nat.le_refl _⟩, bk_ BK740, bk_ BK741, bk_ BK749, bk_ BK750, bk_ BK756, bk_ BK757, bk_ BK761, bk_ BK765, ⟨by repeat (first | (with_reducible first | exact HB.out | apply below_alloc | apply pw_below_drewN | apply below_drew1 | refine below_set ?_ GE740.out | refine below_set ?_ GE741.out | refine below_set ?_ GE749.out | refine below_set ?_ GE750.out | refine below_set ?_ GE756.out | refine below_set ?_ GE757.out | refine below_set ?_ GE761.out | refine below_set ?_ GE765.out) | exact HB.out)⟩⟩
      ·
       rw [if_neg c74] at H; have c74b0 : ((!(t762 == t769) || (!(t763 == t770))) || (!(t764 == t771))) = false := by simpa using c74
       clear c74; replace H := Option.bind_eq_some_iff.mp H; obtain ⟨t772, A790, H⟩ := H; (try dsimp only at H); have A79 := Aside0.mk A790; clear A790; replace H := Option.bind_eq_some_iff.mp H; obtain ⟨t773, A800, H⟩ := H; (try dsimp only at H); have A80 := Aside0.mk A800; clear A800; have H' := Aside0.mk H; clear H
       try go_wp2
       have n0_ : Aside0 (Kd.R (Kd.int .i64) 3 (((w59.setCell ⟨gb765, 0, none⟩ (.int .i64 t762)).setCell ⟨gb765, 1, none⟩ (.int .i64 t763)).setCell ⟨gb765, 2, none⟩ (.bool t764)) w.heap.size (fun _ => True) (.slice Ao57 t746.length co57) t746) := ⟨by (with_reducible repeat (first | apply Kd.R_alloc | apply Kd.R_drewN | apply Kd.R_drew)); exact Kd.R_mono (Kd.R_far (p := ⟨gb765, 2, none⟩) (Kd.R_far (p := ⟨gb765, 1, none⟩) (Kd.R_far (p := ⟨gb765, 0, none⟩) (Kd.R_types HO748.out BK765.out (by decide)) (fun _ hk => hk.2) (.int .i64 t762)) (fun _ hk => hk.2) (.int .i64 t763)) (fun _ hk => hk.2) (.bool t764)) (fun _ hk => trivial)⟩; have n1_ : Aside0 ((((w59.setCell ⟨gb765, 0, none⟩ (.int .i64 t762)).setCell ⟨gb765, 1, none⟩ (.int .i64 t763)).setCell ⟨gb765, 2, none⟩ (.bool t764)).heap[gb740]? = some (.cells #[.int .i64 t734, .int .i64 t735, .bool t736] 44 (0, 0))) := bf_ BK740 NB740_765; have n2_ : Aside0 ((((w59.setCell ⟨gb765, 0, none⟩ (.int .i64 t762)).setCell ⟨gb765, 1, none⟩ (.int .i64 t763)).setCell ⟨gb765, 2, none⟩ (.bool t764)).heap[gb741]? = some (.cells #[.int .i64 t737, .int .i64 t738, .bool t739] 44 (0, 0))) := bf_ BK741 NB741_765; have n3_ : Aside0 ((((w59.setCell ⟨gb765, 0, none⟩ (.int .i64 t762)).setCell ⟨gb765, 1, none⟩ (.int .i64 t763)).setCell ⟨gb765, 2, none⟩ (.bool t764)).heap[gb749]? = some (.cells #[.int .i64 t742, .int .i64 t743] 25 (0, 0))) := bf_ BK749 NB749_765; have n4_ : Aside0 ((((w59.setCell ⟨gb765, 0, none⟩ (.int .i64 t762)).setCell ⟨gb765, 1, none⟩ (.int .i64 t763)).setCell ⟨gb765, 2, none⟩ (.bool t764)).heap[gb750]? = some (.cells #[.int .i64 t744, .int .i64 t745] 25 (0, 0))) := bf_ BK750 NB750_765; have n5_ : Aside0 ((((w59.setCell ⟨gb765, 0, none⟩ (.int .i64 t762)).setCell ⟨gb765, 1, none⟩ (.int .i64 t763)).setCell ⟨gb765, 2, none⟩ (.bool t764)).heap[gb756]? = some (.cells #[.int .i64 t751, .int .i64 t752, .bool t753] 44 (0, 0))) := bf_ BK756 NB756_765; have n6_ : Aside0 ((((w59.setCell ⟨gb765, 0, none⟩ (.int .i64 t762)).setCell ⟨gb765, 1, none⟩ (.int .i64 t763)).setCell ⟨gb765, 2, none⟩ (.bool t764)).heap[gb757]? = some (.cells #[.bool t754, .int .i64 t755] 48 (0, 0))) := bf_ BK757 NB757_765; have n7_ : Aside0 ((((w59.setCell ⟨gb765, 0, none⟩ (.int .i64 t762)).setCell ⟨gb765, 1, none⟩ (.int .i64 t763)).setCell ⟨gb765, 2, none⟩ (.bool t764)).heap[gb761]? = some (.cells #[.int .i64 t758, .int .i64 t759, .bool t760] 44 (0, 0))) := bf_ BK761 NB761_765; have n8_ : Aside0 ((((w59.setCell ⟨gb765, 0, none⟩ (.int .i64 t762)).setCell ⟨gb765, 1, none⟩ (.int .i64 t763)).setCell ⟨gb765, 2, none⟩ (.bool t764)).heap[gb765]? = some (.cells #[.int .i64 t762, .int .i64 t763, .bool t764] 44 (0, 0))) := ⟨by (with_reducible repeat (first | refine blk_drewN ?_ _ | refine blk_drew ?_ | refine blk_alloc ?_ _)); refine blk_put (cs := #[.int .i64 t762, .int .i64 t763, .bool false]) ?_ 2 _ rfl; (with_reducible repeat (first | refine blk_drewN ?_ _ | refine blk_drew ?_ | refine blk_alloc ?_ _)); refine blk_put (cs := #[.int .i64 t762, .int .i64 0, .bool false]) ?_ 1 _ rfl; (with_reducible repeat (first | refine blk_drewN ?_ _ | refine blk_drew ?_ | refine blk_alloc ?_ _)); refine blk_put (cs := #[.int .i64 0, .int .i64 0, .bool false]) ?_ 0 _ rfl; (with_reducible repeat (first | refine blk_drewN ?_ _ | refine blk_drew ?_ | refine blk_alloc ?_ _)); exact BK765.out⟩; have n9_ : Aside0 (Below w.heap.size w (((w59.setCell ⟨gb765, 0, none⟩ (.int .i64 t762)).setCell ⟨gb765, 1, none⟩ (.int .i64 t763)).setCell ⟨gb765, 2, none⟩ (.bool t764))) := ⟨by repeat (first | (with_reducible first | exact HB.out | apply below_alloc | apply pw_below_drewN | apply below_drew1 | refine below_set ?_ GE740.out | refine below_set ?_ GE741.out | refine below_set ?_ GE749.out | refine below_set ?_ GE750.out | refine below_set ?_ GE756.out | refine below_set ?_ GE757.out | refine below_set ?_ GE761.out | refine below_set ?_ GE765.out) | exact HB.out)⟩
       (try clear HO748)
       (try clear BK740)
       (try clear BK741)
       (try clear BK749)
       (try clear BK750)
       (try clear BK756)
       (try clear BK757)
       (try clear BK761)
       (try clear BK765)
       (try clear HB)
       generalize (((w59.setCell ⟨gb765, 0, none⟩ (.int .i64 t762)).setCell ⟨gb765, 1, none⟩ (.int .i64 t763)).setCell ⟨gb765, 2, none⟩ (.bool t764)) = w81 at n0_ n1_ n2_ n3_ n4_ n5_ n6_ n7_ n8_ n9_ ⊢; have HO748 := n0_; have BK740 := n1_; have BK741 := n2_; have BK749 := n3_; have BK750 := n4_; have BK756 := n5_; have BK757 := n6_; have BK761 := n7_; have BK765 := n8_; have HB := n9_; clear n0_ n1_ n2_ n3_ n4_ n5_ n6_ n7_ n8_ n9_; replace HO748 := Aside0.mk (Kd.R_drew HO748.out); replace BK740 := bd_ BK740; replace BK741 := bd_ BK741; replace BK749 := bd_ BK749; replace BK750 := bd_ BK750; replace BK756 := bd_ BK756; replace BK757 := bd_ BK757; replace BK761 := bd_ BK761; replace BK765 := bd_ BK765; replace HB := hd_ HB; refine start_ (n := 22) (S := fun w' => w'.cell? ⟨gb761, 0, none⟩ = some (.int .i64 t758) ∧ w'.cell? ⟨gb761, 1, none⟩ = some (.int .i64 t759) ∧ w'.cell? ⟨gb761, 2, none⟩ = some (.bool t760) ∧ w'.cell? ⟨gb740, 0, none⟩ = some (.int .i64 t734) ∧ w'.cell? ⟨gb740, 1, none⟩ = some (.int .i64 t735) ∧ w'.cell? ⟨gb740, 2, none⟩ = some (.bool t736) ∧ w'.cell? ⟨gb741, 0, none⟩ = some (.int .i64 t737) ∧ w'.cell? ⟨gb741, 1, none⟩ = some (.int .i64 t738) ∧ w'.cell? ⟨gb741, 2, none⟩ = some (.bool t739) ∧ w'.cell? ⟨gb765, 0, none⟩ = some (.int .i64 t762) ∧ w'.cell? ⟨gb765, 1, none⟩ = some (.int .i64 t763) ∧ w'.cell? ⟨gb765, 2, none⟩ = some (.bool t764) ∧ w'.cell? ⟨gb756, 0, none⟩ = some (.int .i64 t751) ∧ w'.cell? ⟨gb756, 1, none⟩ = some (.int .i64 t752) ∧ w'.cell? ⟨gb756, 2, none⟩ = some (.bool t753) ∧ w'.cell? ⟨gb757, 0, none⟩ = some (.bool t754) ∧ w'.cell? ⟨gb757, 1, none⟩ = some (.int .i64 t755)) (ds := []) laws_FnVals.b0_ (by kernel_rfl) rfl rfl ⟨cl_ BK761 0, cl_ BK761 1, cl_ BK761 2, cl_ BK740 0, cl_ BK740 1, cl_ BK740 2, cl_ BK741 0, cl_ BK741 1, cl_ BK741 2, cl_ BK765 0, cl_ BK765 1, cl_ BK765 2, cl_ BK756 0, cl_ BK756 1, cl_ BK756 2, cl_ BK757 0, cl_ BK757 1⟩ (fun hHeld => ?_); refine with_tabW laws_FnVals.tab8 laws_FnVals.bits8 (fun HT_ HW_ => ?_); generalize w81.drew = w82 at HO748 BK740 BK741 BK749 BK750 BK756 BK757 BK761 BK765 HB hHeld ⊢; refine take_y 0 (some 45) laws_FnVals.b1_ rfl (take_ofW HT_.out HW_.out (by kernel_rfl)) hHeld (Or.inl ⟨by rfl, (by rintro w' ⟨s0, s1, s2, s3, s4, s5, s6, s7, s8, s9, s10, s11, s12, s13, s14, s15, s16⟩; go_simp; with_reducible rfl)⟩) (h := ?_)
       refine take_y 1 (some 46) laws_FnVals.b2_ rfl (take_ofW HT_.out HW_.out (by kernel_rfl)) hHeld (Or.inl ⟨by rfl, (by rintro w' ⟨s0, s1, s2, s3, s4, s5, s6, s7, s8, s9, s10, s11, s12, s13, s14, s15, s16⟩; go_simp; with_reducible rfl)⟩) (h := ?_)
       refine take_y 2 (some 47) laws_FnVals.b3_ rfl (take_ofW HT_.out HW_.out (by kernel_rfl)) hHeld (Or.inl ⟨by rfl, (by rintro w' ⟨s0, s1, s2, s3, s4, s5, s6, s7, s8, s9, s10, s11, s12, s13, s14, s15, s16⟩; go_simp; with_reducible rfl)⟩) (h := ?_)
       refine one_ (i := 3) (N := some 48) laws_FnVals.b4_ rfl rfl (one_of HT_.out (by kernel_rfl)) (by decide) (fun K hK => ?_); refine gs_ Tryd.func37 #[.agg #[.int .i64 t734, .int .i64 t735, .bool t736], .agg #[.int .i64 t737, .int .i64 t738, .bool t739]] (h := ?_); with_reducible refine (spec_ValJoin.calls kj2 t734 t735 t736 t737 t738 t739 t766 t767 t768 _ A68.out).mono ?_
       rintro e w83 ⟨rfl, hb⟩; refine ⟨_, rfl, ?_⟩; replace HO748 := Aside0.mk (Kd.R_below (sq_row HO748.out) hb); replace BK740 := bb_ BK740 hb; replace BK741 := bb_ BK741 hb; replace BK749 := bb_ BK749 hb; replace BK750 := bb_ BK750 hb; replace BK756 := bb_ BK756 hb; replace BK757 := bb_ BK757 hb; replace BK761 := bb_ BK761 hb; replace BK765 := bb_ BK765 hb; replace HB := hb8_ HB hb GE740 GE741 GE749 GE750 GE756 GE757 GE761 GE765
       (try clear hb)
       (try clear hb2)
       (try clear hk)
       (try clear hi)
       refine hK.out _ _ ⟨cl_ BK761 0, cl_ BK761 1, cl_ BK761 2, cl_ BK740 0, cl_ BK740 1, cl_ BK740 2, cl_ BK741 0, cl_ BK741 1, cl_ BK741 2, cl_ BK765 0, cl_ BK765 1, cl_ BK765 2, cl_ BK756 0, cl_ BK756 1, cl_ BK756 2, cl_ BK757 0, cl_ BK757 1⟩ (fun hHeld => ?_); clear hK K; refine norm_y (h := ?_)
       refine pure_y 4 (some 49) laws_FnVals.b5_ (any_of HT_.out (by kernel_rfl)) (h := ?_)
       refine pure_y 5 (some 50) laws_FnVals.b6_ (any_of HT_.out (by kernel_rfl)) (h := ?_)
       refine pure_y 9 (some 54) laws_FnVals.b7_ (any_of HT_.out (by kernel_rfl)) (h := ?_)
       refine take_y 6 (some 51) laws_FnVals.b8_ rfl (take_ofW HT_.out HW_.out (by kernel_rfl)) hHeld (Or.inl ⟨by rfl, (by rintro w' ⟨s0, s1, s2, s3, s4, s5, s6, s7, s8, s9, s10, s11, s12, s13, s14, s15, s16⟩; go_simp; with_reducible rfl)⟩) (h := ?_)
       refine take_y 7 (some 52) laws_FnVals.b9_ rfl (take_ofW HT_.out HW_.out (by kernel_rfl)) hHeld (Or.inl ⟨by rfl, (by rintro w' ⟨s0, s1, s2, s3, s4, s5, s6, s7, s8, s9, s10, s11, s12, s13, s14, s15, s16⟩; go_simp; with_reducible rfl)⟩) (h := ?_)
       refine take_y 8 (some 53) laws_FnVals.b10_ rfl (take_ofW HT_.out HW_.out (by kernel_rfl)) hHeld (Or.inl ⟨by rfl, (by rintro w' ⟨s0, s1, s2, s3, s4, s5, s6, s7, s8, s9, s10, s11, s12, s13, s14, s15, s16⟩; go_simp; with_reducible rfl)⟩) (h := ?_)
       refine one_ (i := 10) (N := some 55) laws_FnVals.b11_ rfl rfl (one_of HT_.out (by kernel_rfl)) (by decide) (fun K hK => ?_); refine gs_ Tryd.func38 #[.agg #[.int .i64 t734, .int .i64 t735, .bool t736], .agg #[.int .i64 t737, .int .i64 t738, .bool t739], .slice Ao57 t746.length co57] (h := ?_); with_reducible refine (spec_ValWiden.calls kj2 t734 t735 t736 t737 t738 t739 _ _ t746 t769 t770 t771 _ ?side1 ?side2 A73.out).mono ?_
       (case side1 => repeat (first | exact (Kd.R_reads' HO748.out).2.2 | (with_reducible refine Kd.C_alloc ?_ _) | (with_reducible refine Kd.C_drewN ?_ _) | (with_reducible refine Kd.C_drew ?_)))
       (case side2 => exact (Kd.R_reads' HO748.out).2.1)
       rintro e w84 ⟨rfl, hb⟩; refine ⟨_, rfl, ?_⟩; replace HO748 := Aside0.mk (Kd.R_below (sq_row HO748.out) hb); replace BK740 := bb_ BK740 hb; replace BK741 := bb_ BK741 hb; replace BK749 := bb_ BK749 hb; replace BK750 := bb_ BK750 hb; replace BK756 := bb_ BK756 hb; replace BK757 := bb_ BK757 hb; replace BK761 := bb_ BK761 hb; replace BK765 := bb_ BK765 hb; replace HB := hb8_ HB hb GE740 GE741 GE749 GE750 GE756 GE757 GE761 GE765
       (try clear hb)
       (try clear hb2)
       (try clear hk)
       (try clear hi)
       refine hK.out _ _ ⟨cl_ BK761 0, cl_ BK761 1, cl_ BK761 2, cl_ BK740 0, cl_ BK740 1, cl_ BK740 2, cl_ BK741 0, cl_ BK741 1, cl_ BK741 2, cl_ BK765 0, cl_ BK765 1, cl_ BK765 2, cl_ BK756 0, cl_ BK756 1, cl_ BK756 2, cl_ BK757 0, cl_ BK757 1⟩ (fun hHeld => ?_); clear hK K; refine norm_y (h := ?_)
       refine pure_y 11 (some 56) laws_FnVals.b12_ (any_of HT_.out (by kernel_rfl)) (h := ?_)
       refine pure_y 12 (some 57) laws_FnVals.b13_ (any_of HT_.out (by kernel_rfl)) (h := ?_)
       refine pure_y 13 (some 58) laws_FnVals.b14_ (any_of HT_.out (by kernel_rfl)) (h := ?_)
       refine take_y 14 (some 59) laws_FnVals.b15_ rfl (take_ofW HT_.out HW_.out (by kernel_rfl)) hHeld (Or.inl ⟨by rfl, (by rintro w' ⟨s0, s1, s2, s3, s4, s5, s6, s7, s8, s9, s10, s11, s12, s13, s14, s15, s16⟩; go_simp; with_reducible rfl)⟩) (h := ?_)
       refine take_y 15 (some 60) laws_FnVals.b16_ rfl (take_ofW HT_.out HW_.out (by kernel_rfl)) hHeld (Or.inl ⟨by rfl, (by rintro w' ⟨s0, s1, s2, s3, s4, s5, s6, s7, s8, s9, s10, s11, s12, s13, s14, s15, s16⟩; go_simp; with_reducible rfl)⟩) (h := ?_)
       refine take_y 17 (some 62) #[true, true, true, true, true, true, true, true, true, true, true, true, true, true, true, true, false, true, false, false, false, false] rfl (take_ofW HT_.out HW_.out (by kernel_rfl)) hHeld (Or.inl ⟨by rfl, (by rintro w' ⟨s0, s1, s2, s3, s4, s5, s6, s7, s8, s9, s10, s11, s12, s13, s14, s15, s16⟩; go_simp; with_reducible rfl)⟩) (h := ?_)
       refine take_y 18 (some 63) #[true, true, true, true, true, true, true, true, true, true, true, true, true, true, true, true, false, true, true, false, false, false] rfl (take_ofW HT_.out HW_.out (by kernel_rfl)) hHeld (Or.inl ⟨by rfl, (by rintro w' ⟨s0, s1, s2, s3, s4, s5, s6, s7, s8, s9, s10, s11, s12, s13, s14, s15, s16⟩; go_simp; with_reducible rfl)⟩) (h := ?_)
       refine one_ (i := 16) (N := some 61) laws_FnVals.b19_ rfl rfl (one_of HT_.out (by kernel_rfl)) (by decide) (fun K hK => ?_); refine gs_ Tryd.func39 #[.agg #[.int .i64 t751, .int .i64 t752, .bool t753], .agg #[.bool t754, .int .i64 t755]] (h := ?_); with_reducible refine (impl_ValHas.calls t751 t752 t753 t754 t755 t772 _ ?side1 A79.out).mono ?_
       (case side1 => exact GL0.below HG0.out (sq_below8 HB.out GE740.out GE741.out GE749.out GE750.out GE756.out GE757.out GE761.out GE765.out))
       rintro e w85 ⟨rfl, hb⟩; refine ⟨_, rfl, ?_⟩; replace HO748 := Aside0.mk (Kd.R_below (sq_row HO748.out) hb); replace BK740 := bb_ BK740 hb; replace BK741 := bb_ BK741 hb; replace BK749 := bb_ BK749 hb; replace BK750 := bb_ BK750 hb; replace BK756 := bb_ BK756 hb; replace BK757 := bb_ BK757 hb; replace BK761 := bb_ BK761 hb; replace BK765 := bb_ BK765 hb; replace HB := hb8_ HB hb GE740 GE741 GE749 GE750 GE756 GE757 GE761 GE765
       (try clear hb)
       (try clear hb2)
       (try clear hk)
       (try clear hi)
       refine hK.out _ _ ⟨cl_ BK761 0, cl_ BK761 1, cl_ BK761 2, cl_ BK740 0, cl_ BK740 1, cl_ BK740 2, cl_ BK741 0, cl_ BK741 1, cl_ BK741 2, cl_ BK765 0, cl_ BK765 1, cl_ BK765 2, cl_ BK756 0, cl_ BK756 1, cl_ BK756 2, cl_ BK757 0, cl_ BK757 1⟩ (fun hHeld => ?_); clear hK K; refine norm_y (h := ?_)
       refine one_ (i := 19) (N := some 64) laws_FnVals.b20_ rfl rfl (one_of HT_.out (by kernel_rfl)) (by decide) (fun K hK => ?_); refine gs_ Tryd.func40 #[.agg #[.int .i64 t751, .int .i64 t752, .bool t753], .agg #[.bool t754, .int .i64 t755]] (h := ?_); with_reducible refine (spec_ValHas.calls t751 t752 t753 t754 t755 t773 _ A80.out).mono ?_
       rintro e w86 ⟨rfl, hb⟩; refine ⟨_, rfl, ?_⟩; replace HO748 := Aside0.mk (Kd.R_below (sq_row HO748.out) hb); replace BK740 := bb_ BK740 hb; replace BK741 := bb_ BK741 hb; replace BK749 := bb_ BK749 hb; replace BK750 := bb_ BK750 hb; replace BK756 := bb_ BK756 hb; replace BK757 := bb_ BK757 hb; replace BK761 := bb_ BK761 hb; replace BK765 := bb_ BK765 hb; replace HB := hb8_ HB hb GE740 GE741 GE749 GE750 GE756 GE757 GE761 GE765
       (try clear hb)
       (try clear hb2)
       (try clear hk)
       (try clear hi)
       refine hK.out _ _ ⟨cl_ BK761 0, cl_ BK761 1, cl_ BK761 2, cl_ BK740 0, cl_ BK740 1, cl_ BK740 2, cl_ BK741 0, cl_ BK741 1, cl_ BK741 2, cl_ BK765 0, cl_ BK765 1, cl_ BK765 2, cl_ BK756 0, cl_ BK756 1, cl_ BK756 2, cl_ BK757 0, cl_ BK757 1⟩ (fun hHeld => ?_); clear hK K; refine norm_y (h := ?_)
       refine pure_y 20 (some 65) laws_FnVals.b21_ (any_of HT_.out (by kernel_rfl)) (h := ?_)
       refine pure_y 21 (some 66) laws_FnVals.b22_ (any_of HT_.out (by kernel_rfl)) (h := ?_)
       refine done_ (done_of HT_.out (by kernel_rfl)) ?_
       try go_wp2
       go_meet
       case rel => exact ⟨_, ((t772 != t773)), (by first | rfl | (simp; done) | (simp [*]; done)), H', ⟨by have := HJ2.out; first | omega | exact Nat.le_refl _⟩, bk_ BK740, bk_ BK741, bk_ BK749, bk_ BK750, bk_ BK756, bk_ BK757, bk_ BK761, bk_ BK765, ⟨by repeat (first | (with_reducible first | exact HB.out | apply below_alloc | apply pw_below_drewN | apply below_drew1 | refine below_set ?_ GE740.out | refine below_set ?_ GE741.out | refine below_set ?_ GE749.out | refine below_set ?_ GE750.out | refine below_set ?_ GE756.out | refine below_set ?_ GE757.out | refine below_set ?_ GE761.out | refine below_set ?_ GE765.out) | exact HB.out)⟩⟩
    case rest =>
     clear HC13
     try clear p2
     try clear c3
     try clear c4
     try clear c7
     try clear c37
     try clear c38
     try clear c39
     try clear c40
     try clear c74
     try clear c74b0
     obtain ⟨kq, x66_12, rfl, HA, HJ12, BK740, BK741, BK749, BK750, BK756, BK757, BK761, BK765, HB⟩ := hcut; cases kq with
     | zero => exact absurd HA.out (by simp [laws_FnVals.j1])
     | succ kj12 =>
      have H := HA.out; clear HA; simp only [laws_FnVals.j1] at H
      by_cases c87 : x66_12 = true
      ·
       subst c87; have H1 := ifp_ H
       clear H; have H := H1; clear H1; exact absurd ((Option.some.inj H).trans hr_) Bool.false_ne_true
      ·
       replace c87 := Bool.eq_false_iff.mpr c87; subst c87; have H1 := ifn_ H
       clear H; have H := H1; clear H1; have HC88 := Aside0.mk H; clear H
       go_upto_region 10 with (fail)
       go_cut [74] (fun v74 wc => ∃ (kq : Nat) (x74_87 : Bool), v74 = .bool x74_87 ∧ Aside0 (laws_FnVals.j2 kq x74_87 t734 t735 t736 t737 t738 t739 t754 t755 t758 t759 t760 = some r) ∧ Aside0 (kq ≤ kj12) ∧ Aside0 (wc.heap[gb740]? = some (.cells #[.int .i64 t734, .int .i64 t735, .bool t736] 44 (0, 0))) ∧ Aside0 (wc.heap[gb741]? = some (.cells #[.int .i64 t737, .int .i64 t738, .bool t739] 44 (0, 0))) ∧ Aside0 (wc.heap[gb749]? = some (.cells #[.int .i64 t742, .int .i64 t743] 25 (0, 0))) ∧ Aside0 (wc.heap[gb750]? = some (.cells #[.int .i64 t744, .int .i64 t745] 25 (0, 0))) ∧ Aside0 (wc.heap[gb756]? = some (.cells #[.int .i64 t751, .int .i64 t752, .bool t753] 44 (0, 0))) ∧ Aside0 (wc.heap[gb757]? = some (.cells #[.bool t754, .int .i64 t755] 48 (0, 0))) ∧ Aside0 (wc.heap[gb761]? = some (.cells #[.int .i64 t758, .int .i64 t759, .bool t760] 44 (0, 0))) ∧ Aside0 (wc.heap[gb765]? = some (.cells #[.int .i64 t762, .int .i64 t763, .bool t764] 44 (0, 0))) ∧ Aside0 (Below w.heap.size w wc))
       case first =>
        have H := HC88.out; clear HC88; replace H := Option.bind_eq_some_iff.mp H; obtain ⟨t774, A890, H⟩ := H; (try dsimp only at H); have A89 := Aside0.mk A890; clear A890
        by_cases c90 : t774 = true
        ·
         subst c90; have H1 := ifp_ H
         clear H; have H := H1; clear H1; replace H := Option.bind_eq_some_iff.mp H; obtain ⟨t775, A910, H⟩ := H; (try dsimp only at H); have A91 := Aside0.mk A910; clear A910; have H' := Aside0.mk H; clear H; have hnb92 := NB740_741.out; have hnc92 := NB741_740.out; have hnb93 := NB740_749.out; have hnc93 := NB749_740.out; have hnb94 := NB740_750.out; have hnc94 := NB750_740.out; have hnb95 := NB740_756.out; have hnc95 := NB756_740.out; have hnb96 := NB740_757.out; have hnc96 := NB757_740.out; have hnb97 := NB740_761.out; have hnc97 := NB761_740.out; have hnb98 := NB740_765.out; have hnc98 := NB765_740.out; have hcz99_0 := cl_ (v := .int .i64 t734) BK740 0; have hcz99_1 := cl_ (v := .int .i64 t735) BK740 1; have hcz99_2 := cl_ (v := .bool t736) BK740 2; have hfz99_0 := blk_frozen BK740.out 0; have hfz99_1 := blk_frozen BK740.out 1; have hfz99_2 := blk_frozen BK740.out 2
         go_wp2_with (first | ((with_reducible refine gate_callee (f := 41) rfl ?_); refine gl_ 68 Tryd.func41 #[.agg #[.int .i64 t734, .int .i64 t735, .bool t736]] (h := ?_); (with_reducible refine (spec_ValOk.calls t734 t735 t736 true _ A89.out).mono ?_); rintro e w100 ⟨rfl, hb⟩; refine ⟨_, rfl, ?_⟩; replace BK740 := bb_ BK740 hb; replace BK741 := bb_ BK741 hb; replace BK749 := bb_ BK749 hb; replace BK750 := bb_ BK750 hb; replace BK756 := bb_ BK756 hb; replace BK757 := bb_ BK757 hb; replace BK761 := bb_ BK761 hb; replace BK765 := bb_ BK765 hb; replace HB := hb8_ HB hb GE740 GE741 GE749 GE750 GE756 GE757 GE761 GE765; (try clear hb); have hnb101 := NB741_749.out; have hnc101 := NB749_741.out; have hnb102 := NB741_750.out; have hnc102 := NB750_741.out; have hnb103 := NB741_756.out; have hnc103 := NB756_741.out; have hnb104 := NB741_757.out; have hnc104 := NB757_741.out; have hnb105 := NB741_761.out; have hnc105 := NB761_741.out; have hnb106 := NB741_765.out; have hnc106 := NB765_741.out; have hcz107_0 := cl_ (v := .int .i64 t737) BK741 0; have hcz107_1 := cl_ (v := .int .i64 t738) BK741 1; have hcz107_2 := cl_ (v := .bool t739) BK741 2; have hfz107_0 := blk_frozen BK741.out 0; have hfz107_1 := blk_frozen BK741.out 1; have hfz107_2 := blk_frozen BK741.out 2) | (go_at_call 41; (with_reducible refine (spec_ValOk.calls t737 t738 t739 t775 _ A91.out).mono ?_); rintro e w108 ⟨rfl, hb⟩; replace BK740 := bb_ BK740 hb; replace BK741 := bb_ BK741 hb; replace BK749 := bb_ BK749 hb; replace BK750 := bb_ BK750 hb; replace BK756 := bb_ BK756 hb; replace BK757 := bb_ BK757 hb; replace BK761 := bb_ BK761 hb; replace BK765 := bb_ BK765 hb; replace HB := hb8_ HB hb GE740 GE741 GE749 GE750 GE756 GE757 GE761 GE765; (try clear hb)))
         go_meet
         case rel => exact ⟨_, (!t775), (by first | rfl | (simp; done) | (simp [*]; done)), H', ⟨by have := HJ2.out; have := HJ12.out; first | omega | exact Nat.le_refl _⟩, bk_ BK740, bk_ BK741, bk_ BK749, bk_ BK750, bk_ BK756, bk_ BK757, bk_ BK761, bk_ BK765, ⟨by repeat (first | (with_reducible first | exact HB.out | apply below_alloc | apply pw_below_drewN | apply below_drew1 | refine below_set ?_ GE740.out | refine below_set ?_ GE741.out | refine below_set ?_ GE749.out | refine below_set ?_ GE750.out | refine below_set ?_ GE756.out | refine below_set ?_ GE757.out | refine below_set ?_ GE761.out | refine below_set ?_ GE765.out) | exact HB.out)⟩⟩
        ·
         replace c90 := Bool.eq_false_iff.mpr c90; subst c90; have H1 := ifn_ H
         clear H; have H := H1; clear H1; have H' := Aside0.mk H; clear H; have hnb109 := NB740_741.out; have hnc109 := NB741_740.out; have hnb110 := NB740_749.out; have hnc110 := NB749_740.out; have hnb111 := NB740_750.out; have hnc111 := NB750_740.out; have hnb112 := NB740_756.out; have hnc112 := NB756_740.out; have hnb113 := NB740_757.out; have hnc113 := NB757_740.out; have hnb114 := NB740_761.out; have hnc114 := NB761_740.out; have hnb115 := NB740_765.out; have hnc115 := NB765_740.out; have hcz116_0 := cl_ (v := .int .i64 t734) BK740 0; have hcz116_1 := cl_ (v := .int .i64 t735) BK740 1; have hcz116_2 := cl_ (v := .bool t736) BK740 2; have hfz116_0 := blk_frozen BK740.out 0; have hfz116_1 := blk_frozen BK740.out 1; have hfz116_2 := blk_frozen BK740.out 2
         go_wp2_with (first | ((with_reducible refine gate_callee (f := 41) rfl ?_); refine gl_ 68 Tryd.func41 #[.agg #[.int .i64 t734, .int .i64 t735, .bool t736]] (h := ?_); (with_reducible refine (spec_ValOk.calls t734 t735 t736 false _ A89.out).mono ?_); rintro e w117 ⟨rfl, hb⟩; refine ⟨_, rfl, ?_⟩; replace BK740 := bb_ BK740 hb; replace BK741 := bb_ BK741 hb; replace BK749 := bb_ BK749 hb; replace BK750 := bb_ BK750 hb; replace BK756 := bb_ BK756 hb; replace BK757 := bb_ BK757 hb; replace BK761 := bb_ BK761 hb; replace BK765 := bb_ BK765 hb; replace HB := hb8_ HB hb GE740 GE741 GE749 GE750 GE756 GE757 GE761 GE765; (try clear hb)))
         go_meet
         case rel => exact ⟨_, (true), (by first | rfl | (simp; done) | (simp [*]; done)), H', ⟨by have := HJ2.out; have := HJ12.out; first | omega | exact Nat.le_refl _⟩, bk_ BK740, bk_ BK741, bk_ BK749, bk_ BK750, bk_ BK756, bk_ BK757, bk_ BK761, bk_ BK765, ⟨by repeat (first | (with_reducible first | exact HB.out | apply below_alloc | apply pw_below_drewN | apply below_drew1 | refine below_set ?_ GE740.out | refine below_set ?_ GE741.out | refine below_set ?_ GE749.out | refine below_set ?_ GE750.out | refine below_set ?_ GE756.out | refine below_set ?_ GE757.out | refine below_set ?_ GE761.out | refine below_set ?_ GE765.out) | exact HB.out)⟩⟩
       case rest =>
        clear HC88
        try clear c1
        try clear p2
        try clear c3
        try clear c4
        try clear c7
        try clear c8
        try clear c9
        try clear c10
        try clear c11
        try clear c37
        try clear c38
        try clear c39
        try clear c40
        try clear c41
        try clear c74
        try clear c74b0
        try clear c87
        try clear c90
        try clear c92
        try clear c93
        try clear c94
        try clear c95
        try clear c96
        try clear c97
        try clear c98
        try clear c101
        try clear c102
        try clear c103
        try clear c104
        try clear c105
        try clear c106
        try clear c109
        try clear c110
        try clear c111
        try clear c112
        try clear c113
        try clear c114
        try clear c115
        try clear hcz107_0
        try clear hcz107_1
        try clear hcz107_2
        try clear hcz116_0
        try clear hcz116_1
        try clear hcz116_2
        try clear hcz99_0
        try clear hcz99_1
        try clear hcz99_2
        try clear hfz107_0
        try clear hfz107_1
        try clear hfz107_2
        try clear hfz116_0
        try clear hfz116_1
        try clear hfz116_2
        try clear hfz99_0
        try clear hfz99_1
        try clear hfz99_2
        try clear p2
        obtain ⟨kq, x74_87, rfl, HA, HJ87, BK740, BK741, BK749, BK750, BK756, BK757, BK761, BK765, HB⟩ := hcut; cases kq with
        | zero => exact absurd HA.out (by simp [laws_FnVals.j2])
        | succ kj87 =>
         have H := HA.out; clear HA; simp only [laws_FnVals.j2] at H
         by_cases c118 : x74_87 = true
         ·
          subst c118; have H1 := ifp_ H
          clear H; have H := H1; clear H1; obtain rfl := Option.some.inj H
          go_wp2
          go_ret
          exact ⟨by first | rfl | (simp [errW_none, errW_some] <;> rfl) | (simp [*, errW_none, errW_some] <;> rfl), by repeat (first | (with_reducible first | exact HB.out | apply below_alloc | apply pw_below_drewN | apply below_drew1 | refine below_set ?_ GE740.out | refine below_set ?_ GE741.out | refine below_set ?_ GE749.out | refine below_set ?_ GE750.out | refine below_set ?_ GE756.out | refine below_set ?_ GE757.out | refine below_set ?_ GE761.out | refine below_set ?_ GE765.out) | exact HB.out)⟩
         ·
          replace c118 := Bool.eq_false_iff.mpr c118; subst c118; have H1 := ifn_ H
          clear H; have H := H1; clear H1; have HC119 := Aside0.mk H; clear H
          go_upto_region 12 with (fail)
          go_cut [91] (fun v91 wc => ∃ (kq : Nat) (x91_118 : Bool), v91 = .bool x91_118 ∧ Aside0 (laws_FnVals.j3 kq x91_118 t734 t735 t736 t737 t738 t739 t754 t755 t758 t759 t760 = some r) ∧ Aside0 (kq ≤ kj87) ∧ Aside0 (wc.heap[gb740]? = some (.cells #[.int .i64 t734, .int .i64 t735, .bool t736] 44 (0, 0))) ∧ Aside0 (wc.heap[gb741]? = some (.cells #[.int .i64 t737, .int .i64 t738, .bool t739] 44 (0, 0))) ∧ Aside0 (wc.heap[gb749]? = some (.cells #[.int .i64 t742, .int .i64 t743] 25 (0, 0))) ∧ Aside0 (wc.heap[gb750]? = some (.cells #[.int .i64 t744, .int .i64 t745] 25 (0, 0))) ∧ Aside0 (wc.heap[gb756]? = some (.cells #[.int .i64 t751, .int .i64 t752, .bool t753] 44 (0, 0))) ∧ Aside0 (wc.heap[gb757]? = some (.cells #[.bool t754, .int .i64 t755] 48 (0, 0))) ∧ Aside0 (wc.heap[gb761]? = some (.cells #[.int .i64 t758, .int .i64 t759, .bool t760] 44 (0, 0))) ∧ Aside0 (wc.heap[gb765]? = some (.cells #[.int .i64 t762, .int .i64 t763, .bool t764] 44 (0, 0))) ∧ Aside0 (Below w.heap.size w wc))
          case first =>
           have H := HC119.out; clear HC119; replace H := Option.bind_eq_some_iff.mp H; obtain ⟨t776, A1200, H⟩ := H; (try dsimp only at H); have A120 := Aside0.mk A1200; clear A1200
           by_cases c121 : t776 = true
           ·
            subst c121; have H1 := ifp_ H
            clear H; have H := H1; clear H1; replace H := Option.bind_eq_some_iff.mp H; obtain ⟨t777, A1220, H⟩ := H; (try dsimp only at H); have A122 := Aside0.mk A1220; clear A1220
            by_cases c123 : t777 = true
            ·
             subst c123; have H1 := ifp_ H
             clear H; have H := H1; clear H1; have H' := Aside0.mk H; clear H
             try go_wp2
             replace BK740 := bd_ BK740; replace BK741 := bd_ BK741; replace BK749 := bd_ BK749; replace BK750 := bd_ BK750; replace BK756 := bd_ BK756; replace BK757 := bd_ BK757; replace BK761 := bd_ BK761; replace BK765 := bd_ BK765; replace HB := hd_ HB; refine start_ (n := 17) (S := fun w' => w'.cell? ⟨gb740, 0, none⟩ = some (.int .i64 t734) ∧ w'.cell? ⟨gb740, 1, none⟩ = some (.int .i64 t735) ∧ w'.cell? ⟨gb740, 2, none⟩ = some (.bool t736) ∧ w'.cell? ⟨gb757, 0, none⟩ = some (.bool t754) ∧ w'.cell? ⟨gb757, 1, none⟩ = some (.int .i64 t755)) (ds := []) laws_FnVals.b23_ (by kernel_rfl) rfl rfl ⟨cl_ BK740 0, cl_ BK740 1, cl_ BK740 2, cl_ BK757 0, cl_ BK757 1⟩ (fun hHeld => ?_); refine with_tabW laws_FnVals.tab12 laws_FnVals.bits12 (fun HT_ HW_ => ?_); generalize wc.drew = w124 at BK740 BK741 BK749 BK750 BK756 BK757 BK761 BK765 HB hHeld ⊢; refine take_y 0 (some 75) laws_FnVals.b24_ rfl (take_ofW HT_.out HW_.out (by kernel_rfl)) hHeld (Or.inl ⟨by rfl, (by rintro w' ⟨s0, s1, s2, s3, s4⟩; go_simp; with_reducible rfl)⟩) (h := ?_)
             refine take_y 1 (some 76) laws_FnVals.b25_ rfl (take_ofW HT_.out HW_.out (by kernel_rfl)) hHeld (Or.inl ⟨by rfl, (by rintro w' ⟨s0, s1, s2, s3, s4⟩; go_simp; with_reducible rfl)⟩) (h := ?_)
             refine take_y 8 (some 83) laws_FnVals.b26_ rfl (take_ofW HT_.out HW_.out (by kernel_rfl)) hHeld (Or.inl ⟨by rfl, (by rintro w' ⟨s0, s1, s2, s3, s4⟩; go_simp; with_reducible rfl)⟩) (h := ?_)
             refine take_y 9 (some 84) laws_FnVals.b27_ rfl (take_ofW HT_.out HW_.out (by kernel_rfl)) hHeld (Or.inl ⟨by rfl, (by rintro w' ⟨s0, s1, s2, s3, s4⟩; go_simp; with_reducible rfl)⟩) (h := ?_)
             refine one_ (i := 2) (N := some 77) laws_FnVals.b28_ rfl rfl (one_of HT_.out (by kernel_rfl)) (by decide) (fun K hK => ?_); refine gs_ Tryd.func39 #[.agg #[.int .i64 t734, .int .i64 t735, .bool t736], .agg #[.bool t754, .int .i64 t755]] (h := ?_); with_reducible refine (impl_ValHas.calls t734 t735 t736 t754 t755 true _ ?side1 A120.out).mono ?_
             (case side1 => exact GL0.below HG0.out (sq_below8 HB.out GE740.out GE741.out GE749.out GE750.out GE756.out GE757.out GE761.out GE765.out))
             rintro e w125 ⟨rfl, hb⟩; refine ⟨_, rfl, ?_⟩; replace BK740 := bb_ BK740 hb; replace BK741 := bb_ BK741 hb; replace BK749 := bb_ BK749 hb; replace BK750 := bb_ BK750 hb; replace BK756 := bb_ BK756 hb; replace BK757 := bb_ BK757 hb; replace BK761 := bb_ BK761 hb; replace BK765 := bb_ BK765 hb; replace HB := hb8_ HB hb GE740 GE741 GE749 GE750 GE756 GE757 GE761 GE765
             (try clear hb)
             (try clear hb2)
             (try clear hk)
             (try clear hi)
             refine hK.out _ _ ⟨cl_ BK740 0, cl_ BK740 1, cl_ BK740 2, cl_ BK757 0, cl_ BK757 1⟩ (fun hHeld => ?_); clear hK K; refine norm_y (h := ?_)
             refine pure_y 3 (some 78) laws_FnVals.b29_ (any_of HT_.out (by kernel_rfl)) (h := ?_)
             refine pure_n 4 (some 79) laws_FnVals.b30_ (any_of HT_.out (by kernel_rfl)) (h := ?_)
             refine pure_n 5 (some 80) laws_FnVals.b31_ (any_of HT_.out (by kernel_rfl)) (h := ?_)
             refine pure_n 6 (some 81) laws_FnVals.b32_ (any_of HT_.out (by kernel_rfl)) (h := ?_)
             refine pure_y 7 (some 82) laws_FnVals.b33_ (any_of HT_.out (by kernel_rfl)) (h := ?_)
             refine one_ (i := 10) (N := some 85) laws_FnVals.b34_ rfl rfl (one_of HT_.out (by kernel_rfl)) (by decide) (fun K hK => ?_); refine gs_ Tryd.func40 #[.agg #[.int .i64 t734, .int .i64 t735, .bool t736], .agg #[.bool t754, .int .i64 t755]] (h := ?_); with_reducible refine (spec_ValHas.calls t734 t735 t736 t754 t755 true _ A122.out).mono ?_
             rintro e w126 ⟨rfl, hb⟩; refine ⟨_, rfl, ?_⟩; replace BK740 := bb_ BK740 hb; replace BK741 := bb_ BK741 hb; replace BK749 := bb_ BK749 hb; replace BK750 := bb_ BK750 hb; replace BK756 := bb_ BK756 hb; replace BK757 := bb_ BK757 hb; replace BK761 := bb_ BK761 hb; replace BK765 := bb_ BK765 hb; replace HB := hb8_ HB hb GE740 GE741 GE749 GE750 GE756 GE757 GE761 GE765
             (try clear hb)
             (try clear hb2)
             (try clear hk)
             (try clear hi)
             refine hK.out _ _ ⟨cl_ BK740 0, cl_ BK740 1, cl_ BK740 2, cl_ BK757 0, cl_ BK757 1⟩ (fun hHeld => ?_); clear hK K; refine norm_y (h := ?_)
             refine pure_y 11 (some 86) laws_FnVals.b35_ (any_of HT_.out (by kernel_rfl)) (h := ?_)
             refine pure_n 12 (some 87) laws_FnVals.b36_ (any_of HT_.out (by kernel_rfl)) (h := ?_)
             refine pure_n 13 (some 88) laws_FnVals.b37_ (any_of HT_.out (by kernel_rfl)) (h := ?_)
             refine pure_n 14 (some 89) laws_FnVals.b38_ (any_of HT_.out (by kernel_rfl)) (h := ?_)
             refine pure_y 15 (some 90) laws_FnVals.b39_ (any_of HT_.out (by kernel_rfl)) (h := ?_)
             refine pure_y 16 (some 91) laws_FnVals.b40_ (any_of HT_.out (by kernel_rfl)) (h := ?_)
             refine done_ (done_of HT_.out (by kernel_rfl)) ?_
             try go_wp2
             go_meet
             case rel => exact ⟨_, ((true != true)), (by first | rfl | (simp; done) | (simp [*]; done)), H', ⟨by have := HJ2.out; have := HJ12.out; have := HJ87.out; first | omega | exact Nat.le_refl _⟩, bk_ BK740, bk_ BK741, bk_ BK749, bk_ BK750, bk_ BK756, bk_ BK757, bk_ BK761, bk_ BK765, ⟨by repeat (first | (with_reducible first | exact HB.out | apply below_alloc | apply pw_below_drewN | apply below_drew1 | refine below_set ?_ GE740.out | refine below_set ?_ GE741.out | refine below_set ?_ GE749.out | refine below_set ?_ GE750.out | refine below_set ?_ GE756.out | refine below_set ?_ GE757.out | refine below_set ?_ GE761.out | refine below_set ?_ GE765.out) | exact HB.out)⟩⟩
            ·
             replace c123 := Bool.eq_false_iff.mpr c123; subst c123; have H1 := ifn_ H
             clear H; have H := H1; clear H1; replace H := Option.bind_eq_some_iff.mp H; obtain ⟨t778, A1270, H⟩ := H; (try dsimp only at H); have A127 := Aside0.mk A1270; clear A1270; have H' := Aside0.mk H; clear H
             try go_wp2
             replace BK740 := bd_ BK740; replace BK741 := bd_ BK741; replace BK749 := bd_ BK749; replace BK750 := bd_ BK750; replace BK756 := bd_ BK756; replace BK757 := bd_ BK757; replace BK761 := bd_ BK761; replace BK765 := bd_ BK765; replace HB := hd_ HB; refine start_ (n := 17) (S := fun w' => w'.cell? ⟨gb740, 0, none⟩ = some (.int .i64 t734) ∧ w'.cell? ⟨gb740, 1, none⟩ = some (.int .i64 t735) ∧ w'.cell? ⟨gb740, 2, none⟩ = some (.bool t736) ∧ w'.cell? ⟨gb757, 0, none⟩ = some (.bool t754) ∧ w'.cell? ⟨gb757, 1, none⟩ = some (.int .i64 t755) ∧ w'.cell? ⟨gb741, 0, none⟩ = some (.int .i64 t737) ∧ w'.cell? ⟨gb741, 1, none⟩ = some (.int .i64 t738) ∧ w'.cell? ⟨gb741, 2, none⟩ = some (.bool t739)) (ds := []) laws_FnVals.b23_ (by kernel_rfl) rfl rfl ⟨cl_ BK740 0, cl_ BK740 1, cl_ BK740 2, cl_ BK757 0, cl_ BK757 1, cl_ BK741 0, cl_ BK741 1, cl_ BK741 2⟩ (fun hHeld => ?_); refine with_tabW laws_FnVals.tab12 laws_FnVals.bits12 (fun HT_ HW_ => ?_); generalize wc.drew = w128 at BK740 BK741 BK749 BK750 BK756 BK757 BK761 BK765 HB hHeld ⊢; refine take_y 0 (some 75) laws_FnVals.b24_ rfl (take_ofW HT_.out HW_.out (by kernel_rfl)) hHeld (Or.inl ⟨by rfl, (by rintro w' ⟨s0, s1, s2, s3, s4, s5, s6, s7⟩; go_simp; with_reducible rfl)⟩) (h := ?_)
             refine take_y 1 (some 76) laws_FnVals.b25_ rfl (take_ofW HT_.out HW_.out (by kernel_rfl)) hHeld (Or.inl ⟨by rfl, (by rintro w' ⟨s0, s1, s2, s3, s4, s5, s6, s7⟩; go_simp; with_reducible rfl)⟩) (h := ?_)
             refine take_y 8 (some 83) laws_FnVals.b26_ rfl (take_ofW HT_.out HW_.out (by kernel_rfl)) hHeld (Or.inl ⟨by rfl, (by rintro w' ⟨s0, s1, s2, s3, s4, s5, s6, s7⟩; go_simp; with_reducible rfl)⟩) (h := ?_)
             refine take_y 9 (some 84) laws_FnVals.b27_ rfl (take_ofW HT_.out HW_.out (by kernel_rfl)) hHeld (Or.inl ⟨by rfl, (by rintro w' ⟨s0, s1, s2, s3, s4, s5, s6, s7⟩; go_simp; with_reducible rfl)⟩) (h := ?_)
             refine one_ (i := 2) (N := some 77) laws_FnVals.b28_ rfl rfl (one_of HT_.out (by kernel_rfl)) (by decide) (fun K hK => ?_); refine gs_ Tryd.func39 #[.agg #[.int .i64 t734, .int .i64 t735, .bool t736], .agg #[.bool t754, .int .i64 t755]] (h := ?_); with_reducible refine (impl_ValHas.calls t734 t735 t736 t754 t755 true _ ?side1 A120.out).mono ?_
             (case side1 => exact GL0.below HG0.out (sq_below8 HB.out GE740.out GE741.out GE749.out GE750.out GE756.out GE757.out GE761.out GE765.out))
             rintro e w129 ⟨rfl, hb⟩; refine ⟨_, rfl, ?_⟩; replace BK740 := bb_ BK740 hb; replace BK741 := bb_ BK741 hb; replace BK749 := bb_ BK749 hb; replace BK750 := bb_ BK750 hb; replace BK756 := bb_ BK756 hb; replace BK757 := bb_ BK757 hb; replace BK761 := bb_ BK761 hb; replace BK765 := bb_ BK765 hb; replace HB := hb8_ HB hb GE740 GE741 GE749 GE750 GE756 GE757 GE761 GE765
             (try clear hb)
             (try clear hb2)
             (try clear hk)
             (try clear hi)
             refine hK.out _ _ ⟨cl_ BK740 0, cl_ BK740 1, cl_ BK740 2, cl_ BK757 0, cl_ BK757 1, cl_ BK741 0, cl_ BK741 1, cl_ BK741 2⟩ (fun hHeld => ?_); clear hK K; refine norm_y (h := ?_)
             refine pure_y 3 (some 78) laws_FnVals.b29_ (any_of HT_.out (by kernel_rfl)) (h := ?_)
             refine pure_n 4 (some 79) laws_FnVals.b30_ (any_of HT_.out (by kernel_rfl)) (h := ?_)
             refine pure_n 5 (some 80) laws_FnVals.b31_ (any_of HT_.out (by kernel_rfl)) (h := ?_)
             refine pure_n 6 (some 81) laws_FnVals.b32_ (any_of HT_.out (by kernel_rfl)) (h := ?_)
             refine pure_y 7 (some 82) laws_FnVals.b33_ (any_of HT_.out (by kernel_rfl)) (h := ?_)
             refine one_ (i := 10) (N := some 85) laws_FnVals.b34_ rfl rfl (one_of HT_.out (by kernel_rfl)) (by decide) (fun K hK => ?_); refine gs_ Tryd.func40 #[.agg #[.int .i64 t734, .int .i64 t735, .bool t736], .agg #[.bool t754, .int .i64 t755]] (h := ?_); with_reducible refine (spec_ValHas.calls t734 t735 t736 t754 t755 false _ A122.out).mono ?_
             rintro e w130 ⟨rfl, hb⟩; refine ⟨_, rfl, ?_⟩; replace BK740 := bb_ BK740 hb; replace BK741 := bb_ BK741 hb; replace BK749 := bb_ BK749 hb; replace BK750 := bb_ BK750 hb; replace BK756 := bb_ BK756 hb; replace BK757 := bb_ BK757 hb; replace BK761 := bb_ BK761 hb; replace BK765 := bb_ BK765 hb; replace HB := hb8_ HB hb GE740 GE741 GE749 GE750 GE756 GE757 GE761 GE765
             (try clear hb)
             (try clear hb2)
             (try clear hk)
             (try clear hi)
             refine hK.out _ _ ⟨cl_ BK740 0, cl_ BK740 1, cl_ BK740 2, cl_ BK757 0, cl_ BK757 1, cl_ BK741 0, cl_ BK741 1, cl_ BK741 2⟩ (fun hHeld => ?_); clear hK K; refine norm_y (h := ?_)
             refine pure_y 11 (some 86) laws_FnVals.b35_ (any_of HT_.out (by kernel_rfl)) (h := ?_)
             refine take_y 12 (some 87) laws_FnVals.b36_ rfl (take_ofW HT_.out HW_.out (by kernel_rfl)) hHeld (Or.inl ⟨by rfl, (by rintro w' ⟨s0, s1, s2, s3, s4, s5, s6, s7⟩; go_simp; with_reducible rfl)⟩) (h := ?_)
             refine take_y 13 (some 88) laws_FnVals.b37_ rfl (take_ofW HT_.out HW_.out (by kernel_rfl)) hHeld (Or.inl ⟨by rfl, (by rintro w' ⟨s0, s1, s2, s3, s4, s5, s6, s7⟩; go_simp; with_reducible rfl)⟩) (h := ?_)
             refine one_ (i := 14) (N := some 89) laws_FnVals.b38_ rfl rfl (one_of HT_.out (by kernel_rfl)) (by decide) (fun K hK => ?_); refine gs_ Tryd.func40 #[.agg #[.int .i64 t737, .int .i64 t738, .bool t739], .agg #[.bool t754, .int .i64 t755]] (h := ?_); with_reducible refine (spec_ValHas.calls t737 t738 t739 t754 t755 t778 _ A127.out).mono ?_
             rintro e w131 ⟨rfl, hb⟩; refine ⟨_, rfl, ?_⟩; replace BK740 := bb_ BK740 hb; replace BK741 := bb_ BK741 hb; replace BK749 := bb_ BK749 hb; replace BK750 := bb_ BK750 hb; replace BK756 := bb_ BK756 hb; replace BK757 := bb_ BK757 hb; replace BK761 := bb_ BK761 hb; replace BK765 := bb_ BK765 hb; replace HB := hb8_ HB hb GE740 GE741 GE749 GE750 GE756 GE757 GE761 GE765
             (try clear hb)
             (try clear hb2)
             (try clear hk)
             (try clear hi)
             refine hK.out _ _ ⟨cl_ BK740 0, cl_ BK740 1, cl_ BK740 2, cl_ BK757 0, cl_ BK757 1, cl_ BK741 0, cl_ BK741 1, cl_ BK741 2⟩ (fun hHeld => ?_); clear hK K; refine norm_y (h := ?_)
             refine pure_y 15 (some 90) laws_FnVals.b39_ (any_of HT_.out (by kernel_rfl)) (h := ?_)
             refine pure_y 16 (some 91) laws_FnVals.b40_ (any_of HT_.out (by kernel_rfl)) (h := ?_)
             refine done_ (done_of HT_.out (by kernel_rfl)) ?_
             try go_wp2
             go_meet
             case rel => exact ⟨_, ((true != t778)), (by first | rfl | (simp; done) | (simp [*]; done)), H', ⟨by have := HJ2.out; have := HJ12.out; have := HJ87.out; first | omega | exact Nat.le_refl _⟩, bk_ BK740, bk_ BK741, bk_ BK749, bk_ BK750, bk_ BK756, bk_ BK757, bk_ BK761, bk_ BK765, ⟨by repeat (first | (with_reducible first | exact HB.out | apply below_alloc | apply pw_below_drewN | apply below_drew1 | refine below_set ?_ GE740.out | refine below_set ?_ GE741.out | refine below_set ?_ GE749.out | refine below_set ?_ GE750.out | refine below_set ?_ GE756.out | refine below_set ?_ GE757.out | refine below_set ?_ GE761.out | refine below_set ?_ GE765.out) | exact HB.out)⟩⟩
           ·
            replace c121 := Bool.eq_false_iff.mpr c121; subst c121; have H1 := ifn_ H
            clear H; have H := H1; clear H1; replace H := Option.bind_eq_some_iff.mp H; obtain ⟨t779, A1320, H⟩ := H; (try dsimp only at H); have A132 := Aside0.mk A1320; clear A1320; replace H := Option.bind_eq_some_iff.mp H; obtain ⟨t780, A1330, H⟩ := H; (try dsimp only at H); have A133 := Aside0.mk A1330; clear A1330
            by_cases c134 : t780 = true
            ·
             subst c134; have H1 := ifp_ H
             clear H; have H := H1; clear H1; have H' := Aside0.mk H; clear H
             try go_wp2
             replace BK740 := bd_ BK740; replace BK741 := bd_ BK741; replace BK749 := bd_ BK749; replace BK750 := bd_ BK750; replace BK756 := bd_ BK756; replace BK757 := bd_ BK757; replace BK761 := bd_ BK761; replace BK765 := bd_ BK765; replace HB := hd_ HB; refine start_ (n := 17) (S := fun w' => w'.cell? ⟨gb740, 0, none⟩ = some (.int .i64 t734) ∧ w'.cell? ⟨gb740, 1, none⟩ = some (.int .i64 t735) ∧ w'.cell? ⟨gb740, 2, none⟩ = some (.bool t736) ∧ w'.cell? ⟨gb757, 0, none⟩ = some (.bool t754) ∧ w'.cell? ⟨gb757, 1, none⟩ = some (.int .i64 t755) ∧ w'.cell? ⟨gb741, 0, none⟩ = some (.int .i64 t737) ∧ w'.cell? ⟨gb741, 1, none⟩ = some (.int .i64 t738) ∧ w'.cell? ⟨gb741, 2, none⟩ = some (.bool t739)) (ds := []) laws_FnVals.b23_ (by kernel_rfl) rfl rfl ⟨cl_ BK740 0, cl_ BK740 1, cl_ BK740 2, cl_ BK757 0, cl_ BK757 1, cl_ BK741 0, cl_ BK741 1, cl_ BK741 2⟩ (fun hHeld => ?_); refine with_tabW laws_FnVals.tab12 laws_FnVals.bits12 (fun HT_ HW_ => ?_); generalize wc.drew = w135 at BK740 BK741 BK749 BK750 BK756 BK757 BK761 BK765 HB hHeld ⊢; refine take_y 0 (some 75) laws_FnVals.b24_ rfl (take_ofW HT_.out HW_.out (by kernel_rfl)) hHeld (Or.inl ⟨by rfl, (by rintro w' ⟨s0, s1, s2, s3, s4, s5, s6, s7⟩; go_simp; with_reducible rfl)⟩) (h := ?_)
             refine take_y 1 (some 76) laws_FnVals.b25_ rfl (take_ofW HT_.out HW_.out (by kernel_rfl)) hHeld (Or.inl ⟨by rfl, (by rintro w' ⟨s0, s1, s2, s3, s4, s5, s6, s7⟩; go_simp; with_reducible rfl)⟩) (h := ?_)
             refine take_y 8 (some 83) laws_FnVals.b26_ rfl (take_ofW HT_.out HW_.out (by kernel_rfl)) hHeld (Or.inl ⟨by rfl, (by rintro w' ⟨s0, s1, s2, s3, s4, s5, s6, s7⟩; go_simp; with_reducible rfl)⟩) (h := ?_)
             refine take_y 9 (some 84) laws_FnVals.b27_ rfl (take_ofW HT_.out HW_.out (by kernel_rfl)) hHeld (Or.inl ⟨by rfl, (by rintro w' ⟨s0, s1, s2, s3, s4, s5, s6, s7⟩; go_simp; with_reducible rfl)⟩) (h := ?_)
             refine one_ (i := 2) (N := some 77) laws_FnVals.b28_ rfl rfl (one_of HT_.out (by kernel_rfl)) (by decide) (fun K hK => ?_); refine gs_ Tryd.func39 #[.agg #[.int .i64 t734, .int .i64 t735, .bool t736], .agg #[.bool t754, .int .i64 t755]] (h := ?_); with_reducible refine (impl_ValHas.calls t734 t735 t736 t754 t755 false _ ?side1 A120.out).mono ?_
             (case side1 => exact GL0.below HG0.out (sq_below8 HB.out GE740.out GE741.out GE749.out GE750.out GE756.out GE757.out GE761.out GE765.out))
             rintro e w136 ⟨rfl, hb⟩; refine ⟨_, rfl, ?_⟩; replace BK740 := bb_ BK740 hb; replace BK741 := bb_ BK741 hb; replace BK749 := bb_ BK749 hb; replace BK750 := bb_ BK750 hb; replace BK756 := bb_ BK756 hb; replace BK757 := bb_ BK757 hb; replace BK761 := bb_ BK761 hb; replace BK765 := bb_ BK765 hb; replace HB := hb8_ HB hb GE740 GE741 GE749 GE750 GE756 GE757 GE761 GE765
             (try clear hb)
             (try clear hb2)
             (try clear hk)
             (try clear hi)
             refine hK.out _ _ ⟨cl_ BK740 0, cl_ BK740 1, cl_ BK740 2, cl_ BK757 0, cl_ BK757 1, cl_ BK741 0, cl_ BK741 1, cl_ BK741 2⟩ (fun hHeld => ?_); clear hK K; refine norm_y (h := ?_)
             refine pure_y 3 (some 78) laws_FnVals.b29_ (any_of HT_.out (by kernel_rfl)) (h := ?_)
             refine take_y 4 (some 79) laws_FnVals.b30_ rfl (take_ofW HT_.out HW_.out (by kernel_rfl)) hHeld (Or.inl ⟨by rfl, (by rintro w' ⟨s0, s1, s2, s3, s4, s5, s6, s7⟩; go_simp; with_reducible rfl)⟩) (h := ?_)
             refine take_y 5 (some 80) laws_FnVals.b31_ rfl (take_ofW HT_.out HW_.out (by kernel_rfl)) hHeld (Or.inl ⟨by rfl, (by rintro w' ⟨s0, s1, s2, s3, s4, s5, s6, s7⟩; go_simp; with_reducible rfl)⟩) (h := ?_)
             refine one_ (i := 6) (N := some 81) laws_FnVals.b32_ rfl rfl (one_of HT_.out (by kernel_rfl)) (by decide) (fun K hK => ?_); refine gs_ Tryd.func39 #[.agg #[.int .i64 t737, .int .i64 t738, .bool t739], .agg #[.bool t754, .int .i64 t755]] (h := ?_); with_reducible refine (impl_ValHas.calls t737 t738 t739 t754 t755 t779 _ ?side1 A132.out).mono ?_
             (case side1 => exact GL0.below HG0.out (sq_below8 HB.out GE740.out GE741.out GE749.out GE750.out GE756.out GE757.out GE761.out GE765.out))
             rintro e w137 ⟨rfl, hb⟩; refine ⟨_, rfl, ?_⟩; replace BK740 := bb_ BK740 hb; replace BK741 := bb_ BK741 hb; replace BK749 := bb_ BK749 hb; replace BK750 := bb_ BK750 hb; replace BK756 := bb_ BK756 hb; replace BK757 := bb_ BK757 hb; replace BK761 := bb_ BK761 hb; replace BK765 := bb_ BK765 hb; replace HB := hb8_ HB hb GE740 GE741 GE749 GE750 GE756 GE757 GE761 GE765
             (try clear hb)
             (try clear hb2)
             (try clear hk)
             (try clear hi)
             refine hK.out _ _ ⟨cl_ BK740 0, cl_ BK740 1, cl_ BK740 2, cl_ BK757 0, cl_ BK757 1, cl_ BK741 0, cl_ BK741 1, cl_ BK741 2⟩ (fun hHeld => ?_); clear hK K; refine norm_y (h := ?_)
             refine pure_y 7 (some 82) laws_FnVals.b33_ (any_of HT_.out (by kernel_rfl)) (h := ?_)
             refine one_ (i := 10) (N := some 85) laws_FnVals.b34_ rfl rfl (one_of HT_.out (by kernel_rfl)) (by decide) (fun K hK => ?_); refine gs_ Tryd.func40 #[.agg #[.int .i64 t734, .int .i64 t735, .bool t736], .agg #[.bool t754, .int .i64 t755]] (h := ?_); with_reducible refine (spec_ValHas.calls t734 t735 t736 t754 t755 true _ A133.out).mono ?_
             rintro e w138 ⟨rfl, hb⟩; refine ⟨_, rfl, ?_⟩; replace BK740 := bb_ BK740 hb; replace BK741 := bb_ BK741 hb; replace BK749 := bb_ BK749 hb; replace BK750 := bb_ BK750 hb; replace BK756 := bb_ BK756 hb; replace BK757 := bb_ BK757 hb; replace BK761 := bb_ BK761 hb; replace BK765 := bb_ BK765 hb; replace HB := hb8_ HB hb GE740 GE741 GE749 GE750 GE756 GE757 GE761 GE765
             (try clear hb)
             (try clear hb2)
             (try clear hk)
             (try clear hi)
             refine hK.out _ _ ⟨cl_ BK740 0, cl_ BK740 1, cl_ BK740 2, cl_ BK757 0, cl_ BK757 1, cl_ BK741 0, cl_ BK741 1, cl_ BK741 2⟩ (fun hHeld => ?_); clear hK K; refine norm_y (h := ?_)
             refine pure_y 11 (some 86) laws_FnVals.b35_ (any_of HT_.out (by kernel_rfl)) (h := ?_)
             refine pure_n 12 (some 87) laws_FnVals.b36_ (any_of HT_.out (by kernel_rfl)) (h := ?_)
             refine pure_n 13 (some 88) laws_FnVals.b37_ (any_of HT_.out (by kernel_rfl)) (h := ?_)
             refine pure_n 14 (some 89) laws_FnVals.b38_ (any_of HT_.out (by kernel_rfl)) (h := ?_)
             refine pure_y 15 (some 90) laws_FnVals.b39_ (any_of HT_.out (by kernel_rfl)) (h := ?_)
             refine pure_y 16 (some 91) laws_FnVals.b40_ (any_of HT_.out (by kernel_rfl)) (h := ?_)
             refine done_ (done_of HT_.out (by kernel_rfl)) ?_
             try go_wp2
             go_meet
             case rel => exact ⟨_, ((t779 != true)), (by first | rfl | (simp; done) | (simp [*]; done)), H', ⟨by have := HJ2.out; have := HJ12.out; have := HJ87.out; first | omega | exact Nat.le_refl _⟩, bk_ BK740, bk_ BK741, bk_ BK749, bk_ BK750, bk_ BK756, bk_ BK757, bk_ BK761, bk_ BK765, ⟨by repeat (first | (with_reducible first | exact HB.out | apply below_alloc | apply pw_below_drewN | apply below_drew1 | refine below_set ?_ GE740.out | refine below_set ?_ GE741.out | refine below_set ?_ GE749.out | refine below_set ?_ GE750.out | refine below_set ?_ GE756.out | refine below_set ?_ GE757.out | refine below_set ?_ GE761.out | refine below_set ?_ GE765.out) | exact HB.out)⟩⟩
            ·
             replace c134 := Bool.eq_false_iff.mpr c134; subst c134; have H1 := ifn_ H
             clear H; have H := H1; clear H1; replace H := Option.bind_eq_some_iff.mp H; obtain ⟨t781, A1390, H⟩ := H; (try dsimp only at H); have A139 := Aside0.mk A1390; clear A1390; have H' := Aside0.mk H; clear H
             try go_wp2
             replace BK740 := bd_ BK740; replace BK741 := bd_ BK741; replace BK749 := bd_ BK749; replace BK750 := bd_ BK750; replace BK756 := bd_ BK756; replace BK757 := bd_ BK757; replace BK761 := bd_ BK761; replace BK765 := bd_ BK765; replace HB := hd_ HB; refine start_ (n := 17) (S := fun w' => w'.cell? ⟨gb740, 0, none⟩ = some (.int .i64 t734) ∧ w'.cell? ⟨gb740, 1, none⟩ = some (.int .i64 t735) ∧ w'.cell? ⟨gb740, 2, none⟩ = some (.bool t736) ∧ w'.cell? ⟨gb757, 0, none⟩ = some (.bool t754) ∧ w'.cell? ⟨gb757, 1, none⟩ = some (.int .i64 t755) ∧ w'.cell? ⟨gb741, 0, none⟩ = some (.int .i64 t737) ∧ w'.cell? ⟨gb741, 1, none⟩ = some (.int .i64 t738) ∧ w'.cell? ⟨gb741, 2, none⟩ = some (.bool t739)) (ds := []) laws_FnVals.b23_ (by kernel_rfl) rfl rfl ⟨cl_ BK740 0, cl_ BK740 1, cl_ BK740 2, cl_ BK757 0, cl_ BK757 1, cl_ BK741 0, cl_ BK741 1, cl_ BK741 2⟩ (fun hHeld => ?_); refine with_tabW laws_FnVals.tab12 laws_FnVals.bits12 (fun HT_ HW_ => ?_); generalize wc.drew = w140 at BK740 BK741 BK749 BK750 BK756 BK757 BK761 BK765 HB hHeld ⊢; refine take_y 0 (some 75) laws_FnVals.b24_ rfl (take_ofW HT_.out HW_.out (by kernel_rfl)) hHeld (Or.inl ⟨by rfl, (by rintro w' ⟨s0, s1, s2, s3, s4, s5, s6, s7⟩; go_simp; with_reducible rfl)⟩) (h := ?_)
             refine take_y 1 (some 76) laws_FnVals.b25_ rfl (take_ofW HT_.out HW_.out (by kernel_rfl)) hHeld (Or.inl ⟨by rfl, (by rintro w' ⟨s0, s1, s2, s3, s4, s5, s6, s7⟩; go_simp; with_reducible rfl)⟩) (h := ?_)
             refine take_y 8 (some 83) laws_FnVals.b26_ rfl (take_ofW HT_.out HW_.out (by kernel_rfl)) hHeld (Or.inl ⟨by rfl, (by rintro w' ⟨s0, s1, s2, s3, s4, s5, s6, s7⟩; go_simp; with_reducible rfl)⟩) (h := ?_)
             refine take_y 9 (some 84) laws_FnVals.b27_ rfl (take_ofW HT_.out HW_.out (by kernel_rfl)) hHeld (Or.inl ⟨by rfl, (by rintro w' ⟨s0, s1, s2, s3, s4, s5, s6, s7⟩; go_simp; with_reducible rfl)⟩) (h := ?_)
             refine one_ (i := 2) (N := some 77) laws_FnVals.b28_ rfl rfl (one_of HT_.out (by kernel_rfl)) (by decide) (fun K hK => ?_); refine gs_ Tryd.func39 #[.agg #[.int .i64 t734, .int .i64 t735, .bool t736], .agg #[.bool t754, .int .i64 t755]] (h := ?_); with_reducible refine (impl_ValHas.calls t734 t735 t736 t754 t755 false _ ?side1 A120.out).mono ?_
             (case side1 => exact GL0.below HG0.out (sq_below8 HB.out GE740.out GE741.out GE749.out GE750.out GE756.out GE757.out GE761.out GE765.out))
             rintro e w141 ⟨rfl, hb⟩; refine ⟨_, rfl, ?_⟩; replace BK740 := bb_ BK740 hb; replace BK741 := bb_ BK741 hb; replace BK749 := bb_ BK749 hb; replace BK750 := bb_ BK750 hb; replace BK756 := bb_ BK756 hb; replace BK757 := bb_ BK757 hb; replace BK761 := bb_ BK761 hb; replace BK765 := bb_ BK765 hb; replace HB := hb8_ HB hb GE740 GE741 GE749 GE750 GE756 GE757 GE761 GE765
             (try clear hb)
             (try clear hb2)
             (try clear hk)
             (try clear hi)
             refine hK.out _ _ ⟨cl_ BK740 0, cl_ BK740 1, cl_ BK740 2, cl_ BK757 0, cl_ BK757 1, cl_ BK741 0, cl_ BK741 1, cl_ BK741 2⟩ (fun hHeld => ?_); clear hK K; refine norm_y (h := ?_)
             refine pure_y 3 (some 78) laws_FnVals.b29_ (any_of HT_.out (by kernel_rfl)) (h := ?_)
             refine take_y 4 (some 79) laws_FnVals.b30_ rfl (take_ofW HT_.out HW_.out (by kernel_rfl)) hHeld (Or.inl ⟨by rfl, (by rintro w' ⟨s0, s1, s2, s3, s4, s5, s6, s7⟩; go_simp; with_reducible rfl)⟩) (h := ?_)
             refine take_y 5 (some 80) laws_FnVals.b31_ rfl (take_ofW HT_.out HW_.out (by kernel_rfl)) hHeld (Or.inl ⟨by rfl, (by rintro w' ⟨s0, s1, s2, s3, s4, s5, s6, s7⟩; go_simp; with_reducible rfl)⟩) (h := ?_)
             refine one_ (i := 6) (N := some 81) laws_FnVals.b32_ rfl rfl (one_of HT_.out (by kernel_rfl)) (by decide) (fun K hK => ?_); refine gs_ Tryd.func39 #[.agg #[.int .i64 t737, .int .i64 t738, .bool t739], .agg #[.bool t754, .int .i64 t755]] (h := ?_); with_reducible refine (impl_ValHas.calls t737 t738 t739 t754 t755 t779 _ ?side1 A132.out).mono ?_
             (case side1 => exact GL0.below HG0.out (sq_below8 HB.out GE740.out GE741.out GE749.out GE750.out GE756.out GE757.out GE761.out GE765.out))
             rintro e w142 ⟨rfl, hb⟩; refine ⟨_, rfl, ?_⟩; replace BK740 := bb_ BK740 hb; replace BK741 := bb_ BK741 hb; replace BK749 := bb_ BK749 hb; replace BK750 := bb_ BK750 hb; replace BK756 := bb_ BK756 hb; replace BK757 := bb_ BK757 hb; replace BK761 := bb_ BK761 hb; replace BK765 := bb_ BK765 hb; replace HB := hb8_ HB hb GE740 GE741 GE749 GE750 GE756 GE757 GE761 GE765
             (try clear hb)
             (try clear hb2)
             (try clear hk)
             (try clear hi)
             refine hK.out _ _ ⟨cl_ BK740 0, cl_ BK740 1, cl_ BK740 2, cl_ BK757 0, cl_ BK757 1, cl_ BK741 0, cl_ BK741 1, cl_ BK741 2⟩ (fun hHeld => ?_); clear hK K; refine norm_y (h := ?_)
             refine pure_y 7 (some 82) laws_FnVals.b33_ (any_of HT_.out (by kernel_rfl)) (h := ?_)
             refine one_ (i := 10) (N := some 85) laws_FnVals.b34_ rfl rfl (one_of HT_.out (by kernel_rfl)) (by decide) (fun K hK => ?_); refine gs_ Tryd.func40 #[.agg #[.int .i64 t734, .int .i64 t735, .bool t736], .agg #[.bool t754, .int .i64 t755]] (h := ?_); with_reducible refine (spec_ValHas.calls t734 t735 t736 t754 t755 false _ A133.out).mono ?_
             rintro e w143 ⟨rfl, hb⟩; refine ⟨_, rfl, ?_⟩; replace BK740 := bb_ BK740 hb; replace BK741 := bb_ BK741 hb; replace BK749 := bb_ BK749 hb; replace BK750 := bb_ BK750 hb; replace BK756 := bb_ BK756 hb; replace BK757 := bb_ BK757 hb; replace BK761 := bb_ BK761 hb; replace BK765 := bb_ BK765 hb; replace HB := hb8_ HB hb GE740 GE741 GE749 GE750 GE756 GE757 GE761 GE765
             (try clear hb)
             (try clear hb2)
             (try clear hk)
             (try clear hi)
             refine hK.out _ _ ⟨cl_ BK740 0, cl_ BK740 1, cl_ BK740 2, cl_ BK757 0, cl_ BK757 1, cl_ BK741 0, cl_ BK741 1, cl_ BK741 2⟩ (fun hHeld => ?_); clear hK K; refine norm_y (h := ?_)
             refine pure_y 11 (some 86) laws_FnVals.b35_ (any_of HT_.out (by kernel_rfl)) (h := ?_)
             refine take_y 12 (some 87) laws_FnVals.b36_ rfl (take_ofW HT_.out HW_.out (by kernel_rfl)) hHeld (Or.inl ⟨by rfl, (by rintro w' ⟨s0, s1, s2, s3, s4, s5, s6, s7⟩; go_simp; with_reducible rfl)⟩) (h := ?_)
             refine take_y 13 (some 88) laws_FnVals.b37_ rfl (take_ofW HT_.out HW_.out (by kernel_rfl)) hHeld (Or.inl ⟨by rfl, (by rintro w' ⟨s0, s1, s2, s3, s4, s5, s6, s7⟩; go_simp; with_reducible rfl)⟩) (h := ?_)
             refine one_ (i := 14) (N := some 89) laws_FnVals.b38_ rfl rfl (one_of HT_.out (by kernel_rfl)) (by decide) (fun K hK => ?_); refine gs_ Tryd.func40 #[.agg #[.int .i64 t737, .int .i64 t738, .bool t739], .agg #[.bool t754, .int .i64 t755]] (h := ?_); with_reducible refine (spec_ValHas.calls t737 t738 t739 t754 t755 t781 _ A139.out).mono ?_
             rintro e w144 ⟨rfl, hb⟩; refine ⟨_, rfl, ?_⟩; replace BK740 := bb_ BK740 hb; replace BK741 := bb_ BK741 hb; replace BK749 := bb_ BK749 hb; replace BK750 := bb_ BK750 hb; replace BK756 := bb_ BK756 hb; replace BK757 := bb_ BK757 hb; replace BK761 := bb_ BK761 hb; replace BK765 := bb_ BK765 hb; replace HB := hb8_ HB hb GE740 GE741 GE749 GE750 GE756 GE757 GE761 GE765
             (try clear hb)
             (try clear hb2)
             (try clear hk)
             (try clear hi)
             refine hK.out _ _ ⟨cl_ BK740 0, cl_ BK740 1, cl_ BK740 2, cl_ BK757 0, cl_ BK757 1, cl_ BK741 0, cl_ BK741 1, cl_ BK741 2⟩ (fun hHeld => ?_); clear hK K; refine norm_y (h := ?_)
             refine pure_y 15 (some 90) laws_FnVals.b39_ (any_of HT_.out (by kernel_rfl)) (h := ?_)
             refine pure_y 16 (some 91) laws_FnVals.b40_ (any_of HT_.out (by kernel_rfl)) (h := ?_)
             refine done_ (done_of HT_.out (by kernel_rfl)) ?_
             try go_wp2
             go_meet
             case rel => exact ⟨_, ((t779 != t781)), (by first | rfl | (simp; done) | (simp [*]; done)), H', ⟨by have := HJ2.out; have := HJ12.out; have := HJ87.out; first | omega | exact Nat.le_refl _⟩, bk_ BK740, bk_ BK741, bk_ BK749, bk_ BK750, bk_ BK756, bk_ BK757, bk_ BK761, bk_ BK765, ⟨by repeat (first | (with_reducible first | exact HB.out | apply below_alloc | apply pw_below_drewN | apply below_drew1 | refine below_set ?_ GE740.out | refine below_set ?_ GE741.out | refine below_set ?_ GE749.out | refine below_set ?_ GE750.out | refine below_set ?_ GE756.out | refine below_set ?_ GE757.out | refine below_set ?_ GE761.out | refine below_set ?_ GE765.out) | exact HB.out)⟩⟩
          case rest =>
           clear HC119
           try clear c1
           try clear p2
           try clear c3
           try clear c4
           try clear c13
           try clear c39
           try clear c40
           try clear c134
           obtain ⟨kq, x91_118, rfl, HA, HJ118, BK740, BK741, BK749, BK750, BK756, BK757, BK761, BK765, HB⟩ := hcut; cases kq with
           | zero => exact absurd HA.out (by simp [laws_FnVals.j3])
           | succ kj118 =>
            have H := HA.out; clear HA; simp only [laws_FnVals.j3] at H
            by_cases c145 : x91_118 = true
            ·
             subst c145; have H1 := ifp_ H
             clear H; have H := H1; clear H1; exact absurd ((Option.some.inj H).trans hr_) Bool.false_ne_true
            ·
             replace c145 := Bool.eq_false_iff.mpr c145; subst c145; have H1 := ifn_ H
             clear H; have H := H1; clear H1; have HC146 := Aside0.mk H; clear H
             go_upto_region 14 with (fail)
             go_cut [105] (fun v105 wc => ∃ (kq : Nat) (x105_145 : Bool), v105 = .bool x105_145 ∧ Aside0 (laws_FnVals.j4 kq x105_145 t734 t735 t736 t737 t738 t739 t758 t759 t760 = some r) ∧ Aside0 (kq ≤ kj118) ∧ Aside0 (wc.heap[gb740]? = some (.cells #[.int .i64 t734, .int .i64 t735, .bool t736] 44 (0, 0))) ∧ Aside0 (wc.heap[gb741]? = some (.cells #[.int .i64 t737, .int .i64 t738, .bool t739] 44 (0, 0))) ∧ Aside0 (wc.heap[gb749]? = some (.cells #[.int .i64 t742, .int .i64 t743] 25 (0, 0))) ∧ Aside0 (wc.heap[gb750]? = some (.cells #[.int .i64 t744, .int .i64 t745] 25 (0, 0))) ∧ Aside0 (wc.heap[gb756]? = some (.cells #[.int .i64 t751, .int .i64 t752, .bool t753] 44 (0, 0))) ∧ Aside0 (wc.heap[gb757]? = some (.cells #[.bool t754, .int .i64 t755] 48 (0, 0))) ∧ Aside0 (wc.heap[gb761]? = some (.cells #[.int .i64 t758, .int .i64 t759, .bool t760] 44 (0, 0))) ∧ Aside0 (wc.heap[gb765]? = some (.cells #[.int .i64 t762, .int .i64 t763, .bool t764] 44 (0, 0))) ∧ Aside0 (Below w.heap.size w wc))
             case first =>
              have H := HC146.out; clear HC146; replace H := Option.bind_eq_some_iff.mp H; obtain ⟨t782, A1470, H⟩ := H; (try dsimp only at H); have A147 := Aside0.mk A1470; clear A1470
              by_cases c148 : t782 = true
              ·
               subst c148; have H1 := ifp_ H
               clear H; have H := H1; clear H1; replace H := Option.bind_eq_some_iff.mp H; obtain ⟨t783, A1490, H⟩ := H; (try dsimp only at H); have A149 := Aside0.mk A1490; clear A1490; have H' := Aside0.mk H; clear H; have hnb150 := NB740_741.out; have hnc150 := NB741_740.out; have hnb151 := NB740_749.out; have hnc151 := NB749_740.out; have hnb152 := NB740_750.out; have hnc152 := NB750_740.out; have hnb153 := NB740_756.out; have hnc153 := NB756_740.out; have hnb154 := NB740_757.out; have hnc154 := NB757_740.out; have hnb155 := NB740_761.out; have hnc155 := NB761_740.out; have hnb156 := NB740_765.out; have hnc156 := NB765_740.out; have hcz157_0 := cl_ (v := .int .i64 t734) BK740 0; have hcz157_1 := cl_ (v := .int .i64 t735) BK740 1; have hcz157_2 := cl_ (v := .bool t736) BK740 2; have hfz157_0 := blk_frozen BK740.out 0; have hfz157_1 := blk_frozen BK740.out 1; have hfz157_2 := blk_frozen BK740.out 2; have hnb158 := NB757_741.out; have hnc158 := NB741_757.out; have hnb159 := NB757_749.out; have hnc159 := NB749_757.out; have hnb160 := NB757_750.out; have hnc160 := NB750_757.out; have hnb161 := NB757_756.out; have hnc161 := NB756_757.out; have hnb162 := NB757_761.out; have hnc162 := NB761_757.out; have hnb163 := NB757_765.out; have hnc163 := NB765_757.out; have hcz164_0 := cl_ (v := .bool t754) BK757 0; have hcz164_1 := cl_ (v := .int .i64 t755) BK757 1; have hfz164_0 := blk_frozen BK757.out 0; have hfz164_1 := blk_frozen BK757.out 1
               go_wp2_with (first | ((with_reducible refine gate_callee (f := 40) rfl ?_); refine gl_ 94 Tryd.func40 #[.agg #[.int .i64 t734, .int .i64 t735, .bool t736], .agg #[.bool t754, .int .i64 t755]] (h := ?_); (with_reducible refine (spec_ValHas.calls t734 t735 t736 t754 t755 true _ A147.out).mono ?_); rintro e w165 ⟨rfl, hb⟩; refine ⟨_, rfl, ?_⟩; replace BK740 := bb_ BK740 hb; replace BK741 := bb_ BK741 hb; replace BK749 := bb_ BK749 hb; replace BK750 := bb_ BK750 hb; replace BK756 := bb_ BK756 hb; replace BK757 := bb_ BK757 hb; replace BK761 := bb_ BK761 hb; replace BK765 := bb_ BK765 hb; replace HB := hb8_ HB hb GE740 GE741 GE749 GE750 GE756 GE757 GE761 GE765; (try clear hb); have hnb166 := NB761_741.out; have hnc166 := NB741_761.out; have hnb167 := NB761_749.out; have hnc167 := NB749_761.out; have hnb168 := NB761_750.out; have hnc168 := NB750_761.out; have hnb169 := NB761_756.out; have hnc169 := NB756_761.out; have hnb170 := NB761_765.out; have hnc170 := NB765_761.out; have hcz171_0 := cl_ (v := .int .i64 t758) BK761 0; have hcz171_1 := cl_ (v := .int .i64 t759) BK761 1; have hcz171_2 := cl_ (v := .bool t760) BK761 2; have hfz171_0 := blk_frozen BK761.out 0; have hfz171_1 := blk_frozen BK761.out 1; have hfz171_2 := blk_frozen BK761.out 2; have hcz172_0 := cl_ (v := .bool t754) BK757 0; have hcz172_1 := cl_ (v := .int .i64 t755) BK757 1; have hfz172_0 := blk_frozen BK757.out 0; have hfz172_1 := blk_frozen BK757.out 1) | (go_at_call 39; (with_reducible refine (impl_ValHas.calls t758 t759 t760 t754 t755 t783 _ ?side1 A149.out).mono ?_); (case side1 => exact GL0.below HG0.out (sq_below8 HB.out GE740.out GE741.out GE749.out GE750.out GE756.out GE757.out GE761.out GE765.out)); rintro e w173 ⟨rfl, hb⟩; replace BK740 := bb_ BK740 hb; replace BK741 := bb_ BK741 hb; replace BK749 := bb_ BK749 hb; replace BK750 := bb_ BK750 hb; replace BK756 := bb_ BK756 hb; replace BK757 := bb_ BK757 hb; replace BK761 := bb_ BK761 hb; replace BK765 := bb_ BK765 hb; replace HB := hb8_ HB hb GE740 GE741 GE749 GE750 GE756 GE757 GE761 GE765; (try clear hb)))
               go_meet
               case rel => exact ⟨_, (!t783), (by first | rfl | (simp; done) | (simp [*]; done)), H', ⟨by have := HJ2.out; have := HJ12.out; have := HJ87.out; have := HJ118.out; first | omega | exact Nat.le_refl _⟩, bk_ BK740, bk_ BK741, bk_ BK749, bk_ BK750, bk_ BK756, bk_ BK757, bk_ BK761, bk_ BK765, ⟨by repeat (first | (with_reducible first | exact HB.out | apply below_alloc | apply pw_below_drewN | apply below_drew1 | refine below_set ?_ GE740.out | refine below_set ?_ GE741.out | refine below_set ?_ GE749.out | refine below_set ?_ GE750.out | refine below_set ?_ GE756.out | refine below_set ?_ GE757.out | refine below_set ?_ GE761.out | refine below_set ?_ GE765.out) | exact HB.out)⟩⟩
              ·
               replace c148 := Bool.eq_false_iff.mpr c148; subst c148; have H1 := ifn_ H
               clear H; have H := H1; clear H1; replace H := Option.bind_eq_some_iff.mp H; obtain ⟨t784, A1740, H⟩ := H; (try dsimp only at H); have A174 := Aside0.mk A1740; clear A1740
               by_cases c175 : t784 = true
               ·
                subst c175; have H1 := ifp_ H
                clear H; have H := H1; clear H1; replace H := Option.bind_eq_some_iff.mp H; obtain ⟨t785, A1760, H⟩ := H; (try dsimp only at H); have A176 := Aside0.mk A1760; clear A1760; have H' := Aside0.mk H; clear H; have hnb177 := NB740_741.out; have hnc177 := NB741_740.out; have hnb178 := NB740_749.out; have hnc178 := NB749_740.out; have hnb179 := NB740_750.out; have hnc179 := NB750_740.out; have hnb180 := NB740_756.out; have hnc180 := NB756_740.out; have hnb181 := NB740_757.out; have hnc181 := NB757_740.out; have hnb182 := NB740_761.out; have hnc182 := NB761_740.out; have hnb183 := NB740_765.out; have hnc183 := NB765_740.out; have hcz184_0 := cl_ (v := .int .i64 t734) BK740 0; have hcz184_1 := cl_ (v := .int .i64 t735) BK740 1; have hcz184_2 := cl_ (v := .bool t736) BK740 2; have hfz184_0 := blk_frozen BK740.out 0; have hfz184_1 := blk_frozen BK740.out 1; have hfz184_2 := blk_frozen BK740.out 2; have hnb185 := NB757_741.out; have hnc185 := NB741_757.out; have hnb186 := NB757_749.out; have hnc186 := NB749_757.out; have hnb187 := NB757_750.out; have hnc187 := NB750_757.out; have hnb188 := NB757_756.out; have hnc188 := NB756_757.out; have hnb189 := NB757_761.out; have hnc189 := NB761_757.out; have hnb190 := NB757_765.out; have hnc190 := NB765_757.out; have hcz191_0 := cl_ (v := .bool t754) BK757 0; have hcz191_1 := cl_ (v := .int .i64 t755) BK757 1; have hfz191_0 := blk_frozen BK757.out 0; have hfz191_1 := blk_frozen BK757.out 1
                go_wp2_with (first | ((with_reducible refine gate_callee (f := 40) rfl ?_); refine gl_ 94 Tryd.func40 #[.agg #[.int .i64 t734, .int .i64 t735, .bool t736], .agg #[.bool t754, .int .i64 t755]] (h := ?_); (with_reducible refine (spec_ValHas.calls t734 t735 t736 t754 t755 false _ A147.out).mono ?_); rintro e w192 ⟨rfl, hb⟩; refine ⟨_, rfl, ?_⟩; replace BK740 := bb_ BK740 hb; replace BK741 := bb_ BK741 hb; replace BK749 := bb_ BK749 hb; replace BK750 := bb_ BK750 hb; replace BK756 := bb_ BK756 hb; replace BK757 := bb_ BK757 hb; replace BK761 := bb_ BK761 hb; replace BK765 := bb_ BK765 hb; replace HB := hb8_ HB hb GE740 GE741 GE749 GE750 GE756 GE757 GE761 GE765; (try clear hb); have hnb193 := NB741_749.out; have hnc193 := NB749_741.out; have hnb194 := NB741_750.out; have hnc194 := NB750_741.out; have hnb195 := NB741_756.out; have hnc195 := NB756_741.out; have hnb196 := NB741_761.out; have hnc196 := NB761_741.out; have hnb197 := NB741_765.out; have hnc197 := NB765_741.out; have hcz198_0 := cl_ (v := .int .i64 t737) BK741 0; have hcz198_1 := cl_ (v := .int .i64 t738) BK741 1; have hcz198_2 := cl_ (v := .bool t739) BK741 2; have hfz198_0 := blk_frozen BK741.out 0; have hfz198_1 := blk_frozen BK741.out 1; have hfz198_2 := blk_frozen BK741.out 2; have hcz199_0 := cl_ (v := .bool t754) BK757 0; have hcz199_1 := cl_ (v := .int .i64 t755) BK757 1; have hfz199_0 := blk_frozen BK757.out 0; have hfz199_1 := blk_frozen BK757.out 1) | (go_at_call 40; (with_reducible refine (spec_ValHas.calls t737 t738 t739 t754 t755 true _ A174.out).mono ?_); rintro e w200 ⟨rfl, hb⟩; replace BK740 := bb_ BK740 hb; replace BK741 := bb_ BK741 hb; replace BK749 := bb_ BK749 hb; replace BK750 := bb_ BK750 hb; replace BK756 := bb_ BK756 hb; replace BK757 := bb_ BK757 hb; replace BK761 := bb_ BK761 hb; replace BK765 := bb_ BK765 hb; replace HB := hb8_ HB hb GE740 GE741 GE749 GE750 GE756 GE757 GE761 GE765; (try clear hb); have hnb201 := NB761_749.out; have hnc201 := NB749_761.out; have hnb202 := NB761_750.out; have hnc202 := NB750_761.out; have hnb203 := NB761_756.out; have hnc203 := NB756_761.out; have hnb204 := NB761_765.out; have hnc204 := NB765_761.out; have hcz205_0 := cl_ (v := .int .i64 t758) BK761 0; have hcz205_1 := cl_ (v := .int .i64 t759) BK761 1; have hcz205_2 := cl_ (v := .bool t760) BK761 2; have hfz205_0 := blk_frozen BK761.out 0; have hfz205_1 := blk_frozen BK761.out 1; have hfz205_2 := blk_frozen BK761.out 2; have hcz206_0 := cl_ (v := .bool t754) BK757 0; have hcz206_1 := cl_ (v := .int .i64 t755) BK757 1; have hfz206_0 := blk_frozen BK757.out 0; have hfz206_1 := blk_frozen BK757.out 1) | (go_at_call 39; (with_reducible refine (impl_ValHas.calls t758 t759 t760 t754 t755 t785 _ ?side1 A176.out).mono ?_); (case side1 => exact GL0.below HG0.out (sq_below8 HB.out GE740.out GE741.out GE749.out GE750.out GE756.out GE757.out GE761.out GE765.out)); rintro e w207 ⟨rfl, hb⟩; replace BK740 := bb_ BK740 hb; replace BK741 := bb_ BK741 hb; replace BK749 := bb_ BK749 hb; replace BK750 := bb_ BK750 hb; replace BK756 := bb_ BK756 hb; replace BK757 := bb_ BK757 hb; replace BK761 := bb_ BK761 hb; replace BK765 := bb_ BK765 hb; replace HB := hb8_ HB hb GE740 GE741 GE749 GE750 GE756 GE757 GE761 GE765; (try clear hb)))
                go_meet
                case rel => exact ⟨_, (!t785), (by first | rfl | (simp; done) | (simp [*]; done)), H', ⟨by have := HJ2.out; have := HJ12.out; have := HJ87.out; have := HJ118.out; first | omega | exact Nat.le_refl _⟩, bk_ BK740, bk_ BK741, bk_ BK749, bk_ BK750, bk_ BK756, bk_ BK757, bk_ BK761, bk_ BK765, ⟨by repeat (first | (with_reducible first | exact HB.out | apply below_alloc | apply pw_below_drewN | apply below_drew1 | refine below_set ?_ GE740.out | refine below_set ?_ GE741.out | refine below_set ?_ GE749.out | refine below_set ?_ GE750.out | refine below_set ?_ GE756.out | refine below_set ?_ GE757.out | refine below_set ?_ GE761.out | refine below_set ?_ GE765.out) | exact HB.out)⟩⟩
               ·
                replace c175 := Bool.eq_false_iff.mpr c175; subst c175; have H1 := ifn_ H
                clear H; have H := H1; clear H1; have H' := Aside0.mk H; clear H; have hnb208 := NB740_741.out; have hnc208 := NB741_740.out; have hnb209 := NB740_749.out; have hnc209 := NB749_740.out; have hnb210 := NB740_750.out; have hnc210 := NB750_740.out; have hnb211 := NB740_756.out; have hnc211 := NB756_740.out; have hnb212 := NB740_757.out; have hnc212 := NB757_740.out; have hnb213 := NB740_761.out; have hnc213 := NB761_740.out; have hnb214 := NB740_765.out; have hnc214 := NB765_740.out; have hcz215_0 := cl_ (v := .int .i64 t734) BK740 0; have hcz215_1 := cl_ (v := .int .i64 t735) BK740 1; have hcz215_2 := cl_ (v := .bool t736) BK740 2; have hfz215_0 := blk_frozen BK740.out 0; have hfz215_1 := blk_frozen BK740.out 1; have hfz215_2 := blk_frozen BK740.out 2; have hnb216 := NB757_741.out; have hnc216 := NB741_757.out; have hnb217 := NB757_749.out; have hnc217 := NB749_757.out; have hnb218 := NB757_750.out; have hnc218 := NB750_757.out; have hnb219 := NB757_756.out; have hnc219 := NB756_757.out; have hnb220 := NB757_761.out; have hnc220 := NB761_757.out; have hnb221 := NB757_765.out; have hnc221 := NB765_757.out; have hcz222_0 := cl_ (v := .bool t754) BK757 0; have hcz222_1 := cl_ (v := .int .i64 t755) BK757 1; have hfz222_0 := blk_frozen BK757.out 0; have hfz222_1 := blk_frozen BK757.out 1
                go_wp2_with (first | ((with_reducible refine gate_callee (f := 40) rfl ?_); refine gl_ 94 Tryd.func40 #[.agg #[.int .i64 t734, .int .i64 t735, .bool t736], .agg #[.bool t754, .int .i64 t755]] (h := ?_); (with_reducible refine (spec_ValHas.calls t734 t735 t736 t754 t755 false _ A147.out).mono ?_); rintro e w223 ⟨rfl, hb⟩; refine ⟨_, rfl, ?_⟩; replace BK740 := bb_ BK740 hb; replace BK741 := bb_ BK741 hb; replace BK749 := bb_ BK749 hb; replace BK750 := bb_ BK750 hb; replace BK756 := bb_ BK756 hb; replace BK757 := bb_ BK757 hb; replace BK761 := bb_ BK761 hb; replace BK765 := bb_ BK765 hb; replace HB := hb8_ HB hb GE740 GE741 GE749 GE750 GE756 GE757 GE761 GE765; (try clear hb); have hnb224 := NB741_749.out; have hnc224 := NB749_741.out; have hnb225 := NB741_750.out; have hnc225 := NB750_741.out; have hnb226 := NB741_756.out; have hnc226 := NB756_741.out; have hnb227 := NB741_761.out; have hnc227 := NB761_741.out; have hnb228 := NB741_765.out; have hnc228 := NB765_741.out; have hcz229_0 := cl_ (v := .int .i64 t737) BK741 0; have hcz229_1 := cl_ (v := .int .i64 t738) BK741 1; have hcz229_2 := cl_ (v := .bool t739) BK741 2; have hfz229_0 := blk_frozen BK741.out 0; have hfz229_1 := blk_frozen BK741.out 1; have hfz229_2 := blk_frozen BK741.out 2; have hcz230_0 := cl_ (v := .bool t754) BK757 0; have hcz230_1 := cl_ (v := .int .i64 t755) BK757 1; have hfz230_0 := blk_frozen BK757.out 0; have hfz230_1 := blk_frozen BK757.out 1) | (go_at_call 40; (with_reducible refine (spec_ValHas.calls t737 t738 t739 t754 t755 false _ A174.out).mono ?_); rintro e w231 ⟨rfl, hb⟩; replace BK740 := bb_ BK740 hb; replace BK741 := bb_ BK741 hb; replace BK749 := bb_ BK749 hb; replace BK750 := bb_ BK750 hb; replace BK756 := bb_ BK756 hb; replace BK757 := bb_ BK757 hb; replace BK761 := bb_ BK761 hb; replace BK765 := bb_ BK765 hb; replace HB := hb8_ HB hb GE740 GE741 GE749 GE750 GE756 GE757 GE761 GE765; (try clear hb)))
                go_meet
                case rel => exact ⟨_, (false), (by first | rfl | (simp; done) | (simp [*]; done)), H', ⟨by have := HJ2.out; have := HJ12.out; have := HJ87.out; have := HJ118.out; first | omega | exact Nat.le_refl _⟩, bk_ BK740, bk_ BK741, bk_ BK749, bk_ BK750, bk_ BK756, bk_ BK757, bk_ BK761, bk_ BK765, ⟨by repeat (first | (with_reducible first | exact HB.out | apply below_alloc | apply pw_below_drewN | apply below_drew1 | refine below_set ?_ GE740.out | refine below_set ?_ GE741.out | refine below_set ?_ GE749.out | refine below_set ?_ GE750.out | refine below_set ?_ GE756.out | refine below_set ?_ GE757.out | refine below_set ?_ GE761.out | refine below_set ?_ GE765.out) | exact HB.out)⟩⟩
             case rest =>
              clear HC146
              try clear c1
              try clear c2
              try clear p2
              try clear c3
              try clear c4
              try clear c13
              try clear c14
              try clear c15
              try clear c16
              try clear c17
              try clear c18
              try clear c19
              try clear c20
              try clear c21
              try clear c22
              try clear c39
              try clear c40
              try clear c134
              try clear c145
              try clear c148
              try clear c150
              try clear c151
              try clear c152
              try clear c153
              try clear c154
              try clear c155
              try clear c156
              try clear c158
              try clear c159
              try clear c160
              try clear c161
              try clear c162
              try clear c163
              try clear c166
              try clear c167
              try clear c168
              try clear c169
              try clear c170
              try clear c175
              try clear c177
              try clear c178
              try clear c179
              try clear c180
              try clear c181
              try clear c182
              try clear c183
              try clear c185
              try clear c186
              try clear c187
              try clear c188
              try clear c189
              try clear c190
              try clear c193
              try clear c194
              try clear c195
              try clear c196
              try clear c197
              try clear c201
              try clear c202
              try clear c203
              try clear c204
              try clear c208
              try clear c209
              try clear c210
              try clear c211
              try clear c212
              try clear c213
              try clear c214
              try clear c216
              try clear c217
              try clear c218
              try clear c219
              try clear c220
              try clear c221
              try clear c224
              try clear c225
              try clear c226
              try clear c227
              try clear c228
              try clear hcz157_0
              try clear hcz157_1
              try clear hcz157_2
              try clear hcz164_0
              try clear hcz164_1
              try clear hcz171_0
              try clear hcz171_1
              try clear hcz171_2
              try clear hcz172_0
              try clear hcz172_1
              try clear hcz184_0
              try clear hcz184_1
              try clear hcz184_2
              try clear hcz191_0
              try clear hcz191_1
              try clear hcz198_0
              try clear hcz198_1
              try clear hcz198_2
              try clear hcz199_0
              try clear hcz199_1
              try clear hcz205_0
              try clear hcz205_1
              try clear hcz205_2
              try clear hcz206_0
              try clear hcz206_1
              try clear hcz215_0
              try clear hcz215_1
              try clear hcz215_2
              try clear hcz222_0
              try clear hcz222_1
              try clear hcz229_0
              try clear hcz229_1
              try clear hcz229_2
              try clear hcz230_0
              try clear hcz230_1
              try clear hfz157_0
              try clear hfz157_1
              try clear hfz157_2
              try clear hfz164_0
              try clear hfz164_1
              try clear hfz171_0
              try clear hfz171_1
              try clear hfz171_2
              try clear hfz172_0
              try clear hfz172_1
              try clear hfz184_0
              try clear hfz184_1
              try clear hfz184_2
              try clear hfz191_0
              try clear hfz191_1
              try clear hfz198_0
              try clear hfz198_1
              try clear hfz198_2
              try clear hfz199_0
              try clear hfz199_1
              try clear hfz205_0
              try clear hfz205_1
              try clear hfz205_2
              try clear hfz206_0
              try clear hfz206_1
              try clear hfz215_0
              try clear hfz215_1
              try clear hfz215_2
              try clear hfz222_0
              try clear hfz222_1
              try clear hfz229_0
              try clear hfz229_1
              try clear hfz229_2
              try clear hfz230_0
              try clear hfz230_1
              try clear p2
              obtain ⟨kq, x105_145, rfl, HA, HJ145, BK740, BK741, BK749, BK750, BK756, BK757, BK761, BK765, HB⟩ := hcut; cases kq with
              | zero => exact absurd HA.out (by simp [laws_FnVals.j4])
              | succ kj145 =>
               have H := HA.out; clear HA; simp only [laws_FnVals.j4] at H
               by_cases c232 : x105_145 = true
               ·
                subst c232; have H1 := ifp_ H
                clear H; have H := H1; clear H1; exact absurd ((Option.some.inj H).trans hr_) Bool.false_ne_true
               ·
                replace c232 := Bool.eq_false_iff.mpr c232; subst c232; have H1 := ifn_ H
                clear H; have H := H1; clear H1; replace H := Option.bind_eq_some_iff.mp H; obtain ⟨t786, A2330, H⟩ := H; (try dsimp only at H); have A233 := Aside0.mk A2330; clear A2330; replace H := Option.bind_eq_some_iff.mp H; obtain ⟨⟨t787, t788, t789, t790⟩, A2340, H⟩ := H; (try dsimp only at H); have A234 := Aside0.mk A2340; clear A2340
                by_cases c235 : t790 = true
                ·
                 subst c235; have H1 := ifp_ H
                 clear H; have H := H1; clear H1
                 by_cases c236 : ((t787 == t758 && (t788 == t759)) && (t789 == t760)) = true
                 ·
                  rw [if_pos c236] at H; have c236b0 : ((t787 == t758 && (t788 == t759)) && (t789 == t760)) = true := c236; clear c236; replace H := Option.bind_eq_some_iff.mp H; obtain ⟨t792, A2370, H⟩ := H; (try dsimp only at H); have A237 := Aside0.mk A2370; clear A2370
                  by_cases c238 : t792 = true
                  ·
                   subst c238; have H1 := ifp_ H
                   clear H; have H := H1; clear H1; replace H := Option.bind_eq_some_iff.mp H; obtain ⟨t793, A2390, H⟩ := H; (try dsimp only at H); have A239 := Aside0.mk A2390; clear A2390
                   by_cases c240 : t793 = true
                   ·
                    subst c240; have H1 := ifp_ H
                    clear H; have H := H1; clear H1; replace H := Option.bind_eq_some_iff.mp H; obtain ⟨t794, A2410, H⟩ := H; (try dsimp only at H); have A241 := Aside0.mk A2410; clear A2410; obtain rfl := Option.some.inj H; have hnb242 := NB761_740.out; have hnc242 := NB740_761.out; have hnb243 := NB761_741.out; have hnc243 := NB741_761.out; have hcz244_0 := cl_ (v := .int .i64 t758) BK761 0; have hcz244_1 := cl_ (v := .int .i64 t759) BK761 1; have hcz244_2 := cl_ (v := .bool t760) BK761 2; have hfz244_0 := blk_frozen BK761.out 0; have hfz244_1 := blk_frozen BK761.out 1; have hfz244_2 := blk_frozen BK761.out 2
                    try go_wp2_with (first | ((with_reducible refine gate_callee (f := 43) rfl ?_); refine gl_ 108 Tryd.func43 #[.agg #[.int .i64 t758, .int .i64 t759, .bool t760]] (h := ?_); (with_reducible refine (impl_ValText.calls kj145 t758 t759 t760 t786 _ ?side1 ?side2 A233.out).mono ?_); (case side1 => exact GL0.below HG0.out (sq_below3 HB.out GE740.out GE741.out GE761.out)); (case side2 => exact GL5.below HG5.out (sq_below3 HB.out GE740.out GE741.out GE761.out)); rintro e w245 ⟨rfl, hb⟩; refine ⟨_, rfl, ?_⟩; replace BK740 := bb_ BK740 hb; replace BK741 := bb_ BK741 hb; replace BK761 := bb_ BK761 hb; replace HB := hb3_ HB hb GE740 GE741 GE761; (try clear hb)) | ((with_reducible refine gate_callee (f := 42) rfl ?_); refine gl_ 109 Tryd.func42 #[.string t786] (h := ?_); (with_reducible refine (impl_ValRead.calls t786 t787 t788 t789 true _ ?side1 ?side2 ?side3 ?side4 ?side5 A234.out).mono ?_); (case side1 => exact GL0.below HG0.out (sq_below3 HB.out GE740.out GE741.out GE761.out)); (case side2 => exact GL2.below HG2.out (sq_below3 HB.out GE740.out GE741.out GE761.out)); (case side3 => exact GL3.below HG3.out (sq_below3 HB.out GE740.out GE741.out GE761.out)); (case side4 => exact GL4.below HG4.out (sq_below3 HB.out GE740.out GE741.out GE761.out)); (case side5 => exact GL5.below HG5.out (sq_below3 HB.out GE740.out GE741.out GE761.out)); rintro e w246 ⟨rfl, hb⟩; refine ⟨_, rfl, ?_⟩; replace BK740 := bb_ BK740 hb; replace BK741 := bb_ BK741 hb; replace BK761 := bb_ BK761 hb; replace HB := hb3_ HB hb GE740 GE741 GE761; (try clear hb)) | ((with_reducible refine gate_dst (N := 14) rfl ?_); refine box_y 14 #[.int .i64 0, .int .i64 0, .bool false] 44 (h := ?_); intro gb791 hg w247 hbox hb; have n0_ := Aside0.mk (blk_below (sq_blk BK740.out) hb); have n1_ := Aside0.mk (blk_below (sq_blk BK741.out) hb); have n2_ := Aside0.mk (blk_below (sq_blk BK761.out) hb); have n3_ := Aside0.mk (below_step (sq_below3 HB.out GE740.out GE741.out GE761.out) hb); have n4_ := Aside0.mk (hbox); have n5_ := ge_ hg (below_size (sq_below3 HB.out GE740.out GE741.out GE761.out)); have n6_ := ge_ hg (below_size (sq_below3 HB.out GE740.out GE741.out GE761.out)); have n7_ := nb_ hg BK740; have n8_ := Aside0.mk (Ne.symm n7_.out); have n9_ := nb_ hg BK741; have n10_ := Aside0.mk (Ne.symm n9_.out); have n11_ := nb_ hg BK761; have n12_ := Aside0.mk (Ne.symm n11_.out); clear BK740; clear BK741; clear BK761; clear HB; have BK740 := n0_; have BK741 := n1_; have BK761 := n2_; have HB := n3_; have BK791 := n4_; have GW791 := n5_; have GE791 := n6_; have NB740_791 := n7_; have NB791_740 := n8_; have NB741_791 := n9_; have NB791_741 := n10_; have NB761_791 := n11_; have NB791_761 := n12_; clear n0_ n1_ n2_ n3_ n4_ n5_ n6_ n7_ n8_ n9_ n10_ n11_ n12_; clear hb hbox hg; have hnb248 := NB791_740.out; have hnc248 := NB740_791.out; have hnb249 := NB791_741.out; have hnc249 := NB741_791.out; have hnb250 := NB791_761.out; have hnc250 := NB761_791.out; have hcz251_0 := cl_ (v := .int .i64 0) BK791 0; have hcz251_1 := cl_ (v := .int .i64 0) BK791 1; have hcz251_2 := cl_ (v := .bool false) BK791 2; have hfz251_0 := blk_frozen BK791.out 0; have hfz251_1 := blk_frozen BK791.out 1; have hfz251_2 := blk_frozen BK791.out 2))
                    have n0_ : Aside0 ((((w247.setCell ⟨gb791, 0, none⟩ (.int .i64 t787)).setCell ⟨gb791, 1, none⟩ (.int .i64 t788)).setCell ⟨gb791, 2, none⟩ (.bool t789)).heap[gb740]? = some (.cells #[.int .i64 t734, .int .i64 t735, .bool t736] 44 (0, 0))) := bf_ BK740 NB740_791; have n1_ : Aside0 ((((w247.setCell ⟨gb791, 0, none⟩ (.int .i64 t787)).setCell ⟨gb791, 1, none⟩ (.int .i64 t788)).setCell ⟨gb791, 2, none⟩ (.bool t789)).heap[gb741]? = some (.cells #[.int .i64 t737, .int .i64 t738, .bool t739] 44 (0, 0))) := bf_ BK741 NB741_791; have n2_ : Aside0 ((((w247.setCell ⟨gb791, 0, none⟩ (.int .i64 t787)).setCell ⟨gb791, 1, none⟩ (.int .i64 t788)).setCell ⟨gb791, 2, none⟩ (.bool t789)).heap[gb761]? = some (.cells #[.int .i64 t758, .int .i64 t759, .bool t760] 44 (0, 0))) := bf_ BK761 NB761_791; have n3_ : Aside0 ((((w247.setCell ⟨gb791, 0, none⟩ (.int .i64 t787)).setCell ⟨gb791, 1, none⟩ (.int .i64 t788)).setCell ⟨gb791, 2, none⟩ (.bool t789)).heap[gb791]? = some (.cells #[.int .i64 t787, .int .i64 t788, .bool t789] 44 (0, 0))) := ⟨by (with_reducible repeat (first | refine blk_drewN ?_ _ | refine blk_drew ?_ | refine blk_alloc ?_ _)); refine blk_put (cs := #[.int .i64 t787, .int .i64 t788, .bool false]) ?_ 2 _ rfl; (with_reducible repeat (first | refine blk_drewN ?_ _ | refine blk_drew ?_ | refine blk_alloc ?_ _)); refine blk_put (cs := #[.int .i64 t787, .int .i64 0, .bool false]) ?_ 1 _ rfl; (with_reducible repeat (first | refine blk_drewN ?_ _ | refine blk_drew ?_ | refine blk_alloc ?_ _)); refine blk_put (cs := #[.int .i64 0, .int .i64 0, .bool false]) ?_ 0 _ rfl; (with_reducible repeat (first | refine blk_drewN ?_ _ | refine blk_drew ?_ | refine blk_alloc ?_ _)); exact BK791.out⟩; have n4_ : Aside0 (Below w.heap.size w (((w247.setCell ⟨gb791, 0, none⟩ (.int .i64 t787)).setCell ⟨gb791, 1, none⟩ (.int .i64 t788)).setCell ⟨gb791, 2, none⟩ (.bool t789))) := ⟨by repeat (first | (with_reducible first | exact HB.out | apply below_alloc | apply pw_below_drewN | apply below_drew1 | refine below_set ?_ GE740.out | refine below_set ?_ GE741.out | refine below_set ?_ GE761.out | refine below_set ?_ GE791.out) | exact HB.out)⟩
                    (try clear BK740)
                    (try clear BK741)
                    (try clear BK761)
                    (try clear BK791)
                    (try clear HB)
                    generalize (((w247.setCell ⟨gb791, 0, none⟩ (.int .i64 t787)).setCell ⟨gb791, 1, none⟩ (.int .i64 t788)).setCell ⟨gb791, 2, none⟩ (.bool t789)) = w252 at n0_ n1_ n2_ n3_ n4_ ⊢; have BK740 := n0_; have BK741 := n1_; have BK761 := n2_; have BK791 := n3_; have HB := n4_; clear n0_ n1_ n2_ n3_ n4_; replace BK740 := bd_ BK740; replace BK741 := bd_ BK741; replace BK761 := bd_ BK761; replace BK791 := bd_ BK791; replace HB := hd_ HB; refine start_ (n := 26) (S := fun w' => w'.cell? ⟨gb791, 0, none⟩ = some (.int .i64 t787) ∧ w'.cell? ⟨gb791, 1, none⟩ = some (.int .i64 t788) ∧ w'.cell? ⟨gb791, 2, none⟩ = some (.bool t789) ∧ w'.cell? ⟨gb761, 0, none⟩ = some (.int .i64 t758) ∧ w'.cell? ⟨gb761, 1, none⟩ = some (.int .i64 t759) ∧ w'.cell? ⟨gb761, 2, none⟩ = some (.bool t760) ∧ w'.cell? ⟨gb740, 0, none⟩ = some (.int .i64 t734) ∧ w'.cell? ⟨gb740, 1, none⟩ = some (.int .i64 t735) ∧ w'.cell? ⟨gb740, 2, none⟩ = some (.bool t736) ∧ w'.cell? ⟨gb741, 0, none⟩ = some (.int .i64 t737) ∧ w'.cell? ⟨gb741, 1, none⟩ = some (.int .i64 t738) ∧ w'.cell? ⟨gb741, 2, none⟩ = some (.bool t739)) (ds := []) #[false, false, false, false, false, false, false, false, false, false, false, false, false, false, false, false, false, false, false, false, false, false, false, false, false, false] (by kernel_rfl) rfl rfl ⟨cl_ BK791 0, cl_ BK791 1, cl_ BK791 2, cl_ BK761 0, cl_ BK761 1, cl_ BK761 2, cl_ BK740 0, cl_ BK740 1, cl_ BK740 2, cl_ BK741 0, cl_ BK741 1, cl_ BK741 2⟩ (fun hHeld => ?_); refine with_tabW laws_FnVals.tab17 laws_FnVals.bits17 (fun HT_ HW_ => ?_); generalize w252.drew = w253 at BK740 BK741 BK761 BK791 HB hHeld ⊢; refine pure_y 0 (some 112) #[true, false, false, false, false, false, false, false, false, false, false, false, false, false, false, false, false, false, false, false, false, false, false, false, false, false] (any_of HT_.out (by kernel_rfl)) (h := ?_)
                    refine pure_y 1 (some 113) #[true, true, false, false, false, false, false, false, false, false, false, false, false, false, false, false, false, false, false, false, false, false, false, false, false, false] (any_of HT_.out (by kernel_rfl)) (h := ?_)
                    refine take_y 2 (some 114) #[true, true, true, false, false, false, false, false, false, false, false, false, false, false, false, false, false, false, false, false, false, false, false, false, false, false] rfl (take_ofW HT_.out HW_.out (by kernel_rfl)) hHeld (Or.inl ⟨by rfl, (by rintro w' ⟨s0, s1, s2, s3, s4, s5, s6, s7, s8, s9, s10, s11⟩; go_simp; with_reducible rfl)⟩) (h := ?_)
                    refine take_y 3 (some 115) #[true, true, true, true, false, false, false, false, false, false, false, false, false, false, false, false, false, false, false, false, false, false, false, false, false, false] rfl (take_ofW HT_.out HW_.out (by kernel_rfl)) hHeld (Or.inl ⟨by rfl, (by rintro w' ⟨s0, s1, s2, s3, s4, s5, s6, s7, s8, s9, s10, s11⟩; go_simp; with_reducible rfl)⟩) (h := ?_)
                    refine pure_y 4 (some 116) #[true, true, true, true, true, false, false, false, false, false, false, false, false, false, false, false, false, false, false, false, false, false, false, false, false, false] (any_of HT_.out (by kernel_rfl)) (h := ?_)
                    refine pure_y 5 (some 117) #[true, true, true, true, true, true, false, false, false, false, false, false, false, false, false, false, false, false, false, false, false, false, false, false, false, false] (any_of HT_.out (by kernel_rfl)) (h := ?_)
                    refine pure_y 6 (some 118) #[true, true, true, true, true, true, true, false, false, false, false, false, false, false, false, false, false, false, false, false, false, false, false, false, false, false] (any_of HT_.out (by kernel_rfl)) (h := ?_)
                    refine take_y 7 (some 119) #[true, true, true, true, true, true, true, true, false, false, false, false, false, false, false, false, false, false, false, false, false, false, false, false, false, false] rfl (take_ofW HT_.out HW_.out (by kernel_rfl)) hHeld (Or.inl ⟨by rfl, (by rintro w' ⟨s0, s1, s2, s3, s4, s5, s6, s7, s8, s9, s10, s11⟩; go_simp; with_reducible rfl)⟩) (h := ?_)
                    refine take_y 8 (some 120) #[true, true, true, true, true, true, true, true, true, false, false, false, false, false, false, false, false, false, false, false, false, false, false, false, false, false] rfl (take_ofW HT_.out HW_.out (by kernel_rfl)) hHeld (Or.inl ⟨by rfl, (by rintro w' ⟨s0, s1, s2, s3, s4, s5, s6, s7, s8, s9, s10, s11⟩; go_simp; with_reducible rfl)⟩) (h := ?_)
                    refine one_ (i := 9) (N := some 121) #[true, true, true, true, true, true, true, true, true, true, false, false, false, false, false, false, false, false, false, false, false, false, false, false, false, false] rfl rfl (one_of HT_.out (by kernel_rfl)) (by decide) (fun K hK => ?_); refine gs_ Tryd.func44 #[.agg #[.int .i64 t734, .int .i64 t735, .bool t736], .agg #[.int .i64 t758, .int .i64 t759, .bool t760]] (h := ?_); with_reducible refine (impl_ValLeq.calls t734 t735 t736 t758 t759 t760 true _ ?side1 A237.out).mono ?_
                    (case side1 => exact GL0.below HG0.out (sq_below4 HB.out GE740.out GE741.out GE761.out GE791.out))
                    rintro e w254 ⟨rfl, hb⟩; refine ⟨_, rfl, ?_⟩; replace BK740 := bb_ BK740 hb; replace BK741 := bb_ BK741 hb; replace BK761 := bb_ BK761 hb; replace BK791 := bb_ BK791 hb; replace HB := hb4_ HB hb GE740 GE741 GE761 GE791
                    (try clear hb)
                    (try clear hb2)
                    (try clear hk)
                    (try clear hi)
                    refine hK.out _ _ ⟨cl_ BK791 0, cl_ BK791 1, cl_ BK791 2, cl_ BK761 0, cl_ BK761 1, cl_ BK761 2, cl_ BK740 0, cl_ BK740 1, cl_ BK740 2, cl_ BK741 0, cl_ BK741 1, cl_ BK741 2⟩ (fun hHeld => ?_); clear hK K; refine norm_y (h := ?_)
                    refine pure_y 10 (some 122) #[true, true, true, true, true, true, true, true, true, true, true, false, false, false, false, false, false, false, false, false, false, false, false, false, false, false] (any_of HT_.out (by kernel_rfl)) (h := ?_)
                    refine pure_y 11 (some 123) #[true, true, true, true, true, true, true, true, true, true, true, true, false, false, false, false, false, false, false, false, false, false, false, false, false, false] (any_of HT_.out (by kernel_rfl)) (h := ?_)
                    refine take_y 12 (some 124) #[true, true, true, true, true, true, true, true, true, true, true, true, true, false, false, false, false, false, false, false, false, false, false, false, false, false] rfl (take_ofW HT_.out HW_.out (by kernel_rfl)) hHeld (Or.inl ⟨by rfl, (by rintro w' ⟨s0, s1, s2, s3, s4, s5, s6, s7, s8, s9, s10, s11⟩; go_simp; with_reducible rfl)⟩) (h := ?_)
                    refine take_y 13 (some 125) #[true, true, true, true, true, true, true, true, true, true, true, true, true, true, false, false, false, false, false, false, false, false, false, false, false, false] rfl (take_ofW HT_.out HW_.out (by kernel_rfl)) hHeld (Or.inl ⟨by rfl, (by rintro w' ⟨s0, s1, s2, s3, s4, s5, s6, s7, s8, s9, s10, s11⟩; go_simp; with_reducible rfl)⟩) (h := ?_)
                    refine one_ (i := 14) (N := some 126) #[true, true, true, true, true, true, true, true, true, true, true, true, true, true, true, false, false, false, false, false, false, false, false, false, false, false] rfl rfl (one_of HT_.out (by kernel_rfl)) (by decide) (fun K hK => ?_); refine gs_ Tryd.func44 #[.agg #[.int .i64 t737, .int .i64 t738, .bool t739], .agg #[.int .i64 t758, .int .i64 t759, .bool t760]] (h := ?_); with_reducible refine (impl_ValLeq.calls t737 t738 t739 t758 t759 t760 true _ ?side1 A239.out).mono ?_
                    (case side1 => exact GL0.below HG0.out (sq_below4 HB.out GE740.out GE741.out GE761.out GE791.out))
                    rintro e w255 ⟨rfl, hb⟩; refine ⟨_, rfl, ?_⟩; replace BK740 := bb_ BK740 hb; replace BK741 := bb_ BK741 hb; replace BK761 := bb_ BK761 hb; replace BK791 := bb_ BK791 hb; replace HB := hb4_ HB hb GE740 GE741 GE761 GE791
                    (try clear hb)
                    (try clear hb2)
                    (try clear hk)
                    (try clear hi)
                    refine hK.out _ _ ⟨cl_ BK791 0, cl_ BK791 1, cl_ BK791 2, cl_ BK761 0, cl_ BK761 1, cl_ BK761 2, cl_ BK740 0, cl_ BK740 1, cl_ BK740 2, cl_ BK741 0, cl_ BK741 1, cl_ BK741 2⟩ (fun hHeld => ?_); clear hK K; refine norm_y (h := ?_)
                    refine pure_y 15 (some 127) #[true, true, true, true, true, true, true, true, true, true, true, true, true, true, true, true, false, false, false, false, false, false, false, false, false, false] (any_of HT_.out (by kernel_rfl)) (h := ?_)
                    refine pure_y 16 (some 128) #[true, true, true, true, true, true, true, true, true, true, true, true, true, true, true, true, true, false, false, false, false, false, false, false, false, false] (any_of HT_.out (by kernel_rfl)) (h := ?_)
                    refine take_y 17 (some 129) #[true, true, true, true, true, true, true, true, true, true, true, true, true, true, true, true, true, true, false, false, false, false, false, false, false, false] rfl (take_ofW HT_.out HW_.out (by kernel_rfl)) hHeld (Or.inl ⟨by rfl, (by rintro w' ⟨s0, s1, s2, s3, s4, s5, s6, s7, s8, s9, s10, s11⟩; go_simp; with_reducible rfl)⟩) (h := ?_)
                    refine take_y 18 (some 130) #[true, true, true, true, true, true, true, true, true, true, true, true, true, true, true, true, true, true, true, false, false, false, false, false, false, false] rfl (take_ofW HT_.out HW_.out (by kernel_rfl)) hHeld (Or.inl ⟨by rfl, (by rintro w' ⟨s0, s1, s2, s3, s4, s5, s6, s7, s8, s9, s10, s11⟩; go_simp; with_reducible rfl)⟩) (h := ?_)
                    refine take_y 20 (some 132) #[true, true, true, true, true, true, true, true, true, true, true, true, true, true, true, true, true, true, true, false, true, false, false, false, false, false] rfl (take_ofW HT_.out HW_.out (by kernel_rfl)) hHeld (Or.inl ⟨by rfl, (by rintro w' ⟨s0, s1, s2, s3, s4, s5, s6, s7, s8, s9, s10, s11⟩; go_simp; with_reducible rfl)⟩) (h := ?_)
                    refine take_y 21 (some 133) #[true, true, true, true, true, true, true, true, true, true, true, true, true, true, true, true, true, true, true, false, true, true, false, false, false, false] rfl (take_ofW HT_.out HW_.out (by kernel_rfl)) hHeld (Or.inl ⟨by rfl, (by rintro w' ⟨s0, s1, s2, s3, s4, s5, s6, s7, s8, s9, s10, s11⟩; go_simp; with_reducible rfl)⟩) (h := ?_)
                    refine pure_y 22 (some 134) #[true, true, true, true, true, true, true, true, true, true, true, true, true, true, true, true, true, true, true, false, true, true, true, false, false, false] (any_of HT_.out (by kernel_rfl)) (h := ?_)
                    refine one_ (i := 19) (N := some 131) #[true, true, true, true, true, true, true, true, true, true, true, true, true, true, true, true, true, true, true, true, true, true, true, false, false, false] rfl rfl (one_of HT_.out (by kernel_rfl)) (by decide) (fun K hK => ?_); refine gs_ Tryd.func44 #[.agg #[.int .i64 t734, .int .i64 t735, .bool t736], .agg #[.int .i64 t737, .int .i64 t738, .bool t739]] (h := ?_); with_reducible refine (impl_ValLeq.calls t734 t735 t736 t737 t738 t739 t794 _ ?side1 A241.out).mono ?_
                    (case side1 => exact GL0.below HG0.out (sq_below4 HB.out GE740.out GE741.out GE761.out GE791.out))
                    rintro e w256 ⟨rfl, hb⟩; refine ⟨_, rfl, ?_⟩; replace BK740 := bb_ BK740 hb; replace BK741 := bb_ BK741 hb; replace BK761 := bb_ BK761 hb; replace BK791 := bb_ BK791 hb; replace HB := hb4_ HB hb GE740 GE741 GE761 GE791
                    (try clear hb)
                    (try clear hb2)
                    (try clear hk)
                    (try clear hi)
                    refine hK.out _ _ ⟨cl_ BK791 0, cl_ BK791 1, cl_ BK791 2, cl_ BK761 0, cl_ BK761 1, cl_ BK761 2, cl_ BK740 0, cl_ BK740 1, cl_ BK740 2, cl_ BK741 0, cl_ BK741 1, cl_ BK741 2⟩ (fun hHeld => ?_); clear hK K; refine norm_y (h := ?_)
                    refine pure_y 23 (some 135) #[true, true, true, true, true, true, true, true, true, true, true, true, true, true, true, true, true, true, true, true, true, true, true, true, false, false] (any_of HT_.out (by kernel_rfl)) (h := ?_)
                    refine pure_y 24 (some 136) #[true, true, true, true, true, true, true, true, true, true, true, true, true, true, true, true, true, true, true, true, true, true, true, true, true, false] (any_of HT_.out (by kernel_rfl)) (h := ?_)
                    refine pure_y 25 (some 4) #[true, true, true, true, true, true, true, true, true, true, true, true, true, true, true, true, true, true, true, true, true, true, true, true, true, true] (any_of HT_.out (by kernel_rfl)) (h := ?_)
                    refine done_ (done_of HT_.out (by kernel_rfl)) ?_
                    try go_wp2
                    go_ret
                    exact ⟨by first | rfl | (simp [errW_none, errW_some] <;> rfl) | (simp [*, errW_none, errW_some] <;> rfl), by repeat (first | (with_reducible first | exact HB.out | apply below_alloc | apply pw_below_drewN | apply below_drew1 | refine below_set ?_ GE740.out | refine below_set ?_ GE741.out | refine below_set ?_ GE761.out | refine below_set ?_ GE791.out) | exact HB.out)⟩
                   ·
                    replace c240 := Bool.eq_false_iff.mpr c240; subst c240; exact (no_ H hr_).elim
                  ·
                   replace c238 := Bool.eq_false_iff.mpr c238; subst c238; exact (no_ H hr_).elim
                 ·
                  rw [if_neg c236] at H; have c236b0 : ((t787 == t758 && (t788 == t759)) && (t789 == t760)) = false := by simpa using c236
                  clear c236; exact absurd ((Option.some.inj H).trans hr_) Bool.false_ne_true
                ·
                 replace c235 := Bool.eq_false_iff.mpr c235; subst c235; exact (no_ H hr_).elim

end Go.Proofs.YtmibaaicadgchaaDoor.Q
